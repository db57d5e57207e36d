/- Printed parts. -/
import Derived.Test.YtmebogkhdbbbbaaPx0
import Derived.Test.YtmebogkhdbbbbaaCCf
import Derived.Test.YtmebogkhdbbbbaaPx20
import Derived.Test.YtmebogkhdbbbbaaPx49
import Derived.Test.YtmebogkhdbbbbaaPx1
import Derived.Test.YtmebogkhdbbbbaaPx41
namespace Go.Proofs.Ytmebogkhdbbbbaa.P
open Go.RowKit Go.Proofs.YtmebogkhdbbbbaaW.PrintWords Go.Proofs.YtmebogkhdbbbbaaW.PrintLast Go.Proofs.YtmebogkhdbbbbaaW.PrintMore
attribute [local go_sem] max2_int min2_int max_two min_two max_three min_three max_four min_four   -- for this text's walks alone
set_option linter.unusedVariables false
set_option linter.unusedSimpArgs false

/-! ### pascalineref06_Line: function 35 -/
def pascalineref06_Line.f (k : Nat) (a0 : Int) (a1 : Int) : Option (ByteArray) := (pascalineref01_Hex.f k a0).bind fun t324 => (if t324.size + 1 ≤ 9223372036854775807 then ((pascalineref01_Hex.f k a1).bind fun t325 => (if (t324 ++ (⟨#[32]⟩ : ByteArray)).size + t325.size ≤ 9223372036854775807 then (if ((t324 ++ (⟨#[32]⟩ : ByteArray)) ++ t325).size + 1 ≤ 9223372036854775807 then ((pascalineref02_Decode.f k a1).bind fun bt326 => (if bt326.2.2.2.2.2 = 0 then ((pascalineref02_Text.f k bt326.1 bt326.2.1 bt326.2.2.1 bt326.2.2.2.1 bt326.2.2.2.2.1).bind fun bt333 => ((pascalineref06_leads.f bt326.1).bind fun t335 => (if t335 = true then (if bt333.1.size + 4 ≤ 9223372036854775807 then ((pascalineref01_Hex.f k ((((a0 + 4) % 4294967296) + ((4 * ((bt326.2.2.2.2.1) % 4294967296)) % 4294967296)) % 4294967296)).bind fun t336 => (if (bt333.1 ++ (⟨#[32, 45, 62, 32]⟩ : ByteArray)).size + t336.size ≤ 9223372036854775807 then (if (((t324 ++ (⟨#[32]⟩ : ByteArray)) ++ t325) ++ (⟨#[32]⟩ : ByteArray)).size + ((bt333.1 ++ (⟨#[32, 45, 62, 32]⟩ : ByteArray)) ++ t336).size ≤ 9223372036854775807 then (some ((((t324 ++ (⟨#[32]⟩ : ByteArray)) ++ t325) ++ (⟨#[32]⟩ : ByteArray)) ++ ((bt333.1 ++ (⟨#[32, 45, 62, 32]⟩ : ByteArray)) ++ t336))) else (none)) else (none))) else (none)) else (if (((t324 ++ (⟨#[32]⟩ : ByteArray)) ++ t325) ++ (⟨#[32]⟩ : ByteArray)).size + bt333.1.size ≤ 9223372036854775807 then (some ((((t324 ++ (⟨#[32]⟩ : ByteArray)) ++ t325) ++ (⟨#[32]⟩ : ByteArray)) ++ bt333.1)) else (none))))) else (if (((t324 ++ (⟨#[32]⟩ : ByteArray)) ++ t325) ++ (⟨#[32]⟩ : ByteArray)).size + 1 ≤ 9223372036854775807 then (some ((((t324 ++ (⟨#[32]⟩ : ByteArray)) ++ t325) ++ (⟨#[32]⟩ : ByteArray)) ++ (⟨#[63]⟩ : ByteArray))) else (none)))) else (none)) else (none))) else (none))
theorem pascalineref06_Line.mono : ∀ a0 a1 k, LeO (pascalineref06_Line.f k a0 a1) (pascalineref06_Line.f (k + 1) a0 a1) := by
 intro a0 a1 k
 unfold pascalineref06_Line.f
 repeat' first
  | (with_reducible exact pascalineref01_Hex.mono _ _)
  | (with_reducible exact pascalineref02_Decode.mono _ _)
  | (with_reducible exact pascalineref02_Text.mono _ _ _ _ _ _)
  | (with_reducible exact LeO.refl _)
  | (with_reducible exact LeO.none _)
  | (with_reducible refine LeO.ite ?_ ?_)
  | (with_reducible refine LeO.bind ?_ (fun _ => ?_))
  | exact LeO.none _
  | refine LeO.ite ?_ ?_
  | refine LeO.bind ?_ (fun _ => ?_)
set_option maxHeartbeats 8000000 in
set_option maxRecDepth 100000 in
theorem pascalineref06_Line.calls (k : Nat) (a0 : Int) (a1 : Int) (r : ByteArray) (w : World) (h : pascalineref06_Line.f k a0 a1 = some r) :
 Calls Try.prog 35 #[.int .u32 a0, .int .u32 a1] w fun e w' => e = .returned (.string r) ∧ Below w.heap.size w w' := by
 have hu102 := Try.underlying102
 have HB := mK (Below.refl w.heap.size w)
 have H : ((pascalineref01_Hex.f k a0).bind fun t324 => (if t324.size + 1 ≤ 9223372036854775807 then ((pascalineref01_Hex.f k a1).bind fun t325 => (if (t324 ++ (⟨#[32]⟩ : ByteArray)).size + t325.size ≤ 9223372036854775807 then (if ((t324 ++ (⟨#[32]⟩ : ByteArray)) ++ t325).size + 1 ≤ 9223372036854775807 then ((pascalineref02_Decode.f k a1).bind fun bt326 => (if bt326.2.2.2.2.2 = 0 then ((pascalineref02_Text.f k bt326.1 bt326.2.1 bt326.2.2.1 bt326.2.2.2.1 bt326.2.2.2.2.1).bind fun bt333 => ((pascalineref06_leads.f bt326.1).bind fun t335 => (if t335 = true then (if bt333.1.size + 4 ≤ 9223372036854775807 then ((pascalineref01_Hex.f k ((((a0 + 4) % 4294967296) + ((4 * ((bt326.2.2.2.2.1) % 4294967296)) % 4294967296)) % 4294967296)).bind fun t336 => (if (bt333.1 ++ (⟨#[32, 45, 62, 32]⟩ : ByteArray)).size + t336.size ≤ 9223372036854775807 then (if (((t324 ++ (⟨#[32]⟩ : ByteArray)) ++ t325) ++ (⟨#[32]⟩ : ByteArray)).size + ((bt333.1 ++ (⟨#[32, 45, 62, 32]⟩ : ByteArray)) ++ t336).size ≤ 9223372036854775807 then (some ((((t324 ++ (⟨#[32]⟩ : ByteArray)) ++ t325) ++ (⟨#[32]⟩ : ByteArray)) ++ ((bt333.1 ++ (⟨#[32, 45, 62, 32]⟩ : ByteArray)) ++ t336))) else (none)) else (none))) else (none)) else (if (((t324 ++ (⟨#[32]⟩ : ByteArray)) ++ t325) ++ (⟨#[32]⟩ : ByteArray)).size + bt333.1.size ≤ 9223372036854775807 then (some ((((t324 ++ (⟨#[32]⟩ : ByteArray)) ++ t325) ++ (⟨#[32]⟩ : ByteArray)) ++ bt333.1)) else (none))))) else (if (((t324 ++ (⟨#[32]⟩ : ByteArray)) ++ t325) ++ (⟨#[32]⟩ : ByteArray)).size + 1 ≤ 9223372036854775807 then (some ((((t324 ++ (⟨#[32]⟩ : ByteArray)) ++ t325) ++ (⟨#[32]⟩ : ByteArray)) ++ (⟨#[63]⟩ : ByteArray))) else (none)))) else (none)) else (none))) else (none))) = some r := h
 clear h
 replace H := oB H
 obtain ⟨t324, A30, H⟩ := H
 replace H : (if t324.size + 1 ≤ 9223372036854775807 then ((pascalineref01_Hex.f k a1).bind fun t325 => (if (t324 ++ (⟨#[32]⟩ : ByteArray)).size + t325.size ≤ 9223372036854775807 then (if ((t324 ++ (⟨#[32]⟩ : ByteArray)) ++ t325).size + 1 ≤ 9223372036854775807 then ((pascalineref02_Decode.f k a1).bind fun bt326 => (if bt326.2.2.2.2.2 = 0 then ((pascalineref02_Text.f k bt326.1 bt326.2.1 bt326.2.2.1 bt326.2.2.2.1 bt326.2.2.2.2.1).bind fun bt333 => ((pascalineref06_leads.f bt326.1).bind fun t335 => (if t335 = true then (if bt333.1.size + 4 ≤ 9223372036854775807 then ((pascalineref01_Hex.f k ((((a0 + 4) % 4294967296) + ((4 * ((bt326.2.2.2.2.1) % 4294967296)) % 4294967296)) % 4294967296)).bind fun t336 => (if (bt333.1 ++ (⟨#[32, 45, 62, 32]⟩ : ByteArray)).size + t336.size ≤ 9223372036854775807 then (if (((t324 ++ (⟨#[32]⟩ : ByteArray)) ++ t325) ++ (⟨#[32]⟩ : ByteArray)).size + ((bt333.1 ++ (⟨#[32, 45, 62, 32]⟩ : ByteArray)) ++ t336).size ≤ 9223372036854775807 then (some ((((t324 ++ (⟨#[32]⟩ : ByteArray)) ++ t325) ++ (⟨#[32]⟩ : ByteArray)) ++ ((bt333.1 ++ (⟨#[32, 45, 62, 32]⟩ : ByteArray)) ++ t336))) else (none)) else (none))) else (none)) else (if (((t324 ++ (⟨#[32]⟩ : ByteArray)) ++ t325) ++ (⟨#[32]⟩ : ByteArray)).size + bt333.1.size ≤ 9223372036854775807 then (some ((((t324 ++ (⟨#[32]⟩ : ByteArray)) ++ t325) ++ (⟨#[32]⟩ : ByteArray)) ++ bt333.1)) else (none))))) else (if (((t324 ++ (⟨#[32]⟩ : ByteArray)) ++ t325) ++ (⟨#[32]⟩ : ByteArray)).size + 1 ≤ 9223372036854775807 then (some ((((t324 ++ (⟨#[32]⟩ : ByteArray)) ++ t325) ++ (⟨#[32]⟩ : ByteArray)) ++ (⟨#[63]⟩ : ByteArray))) else (none)))) else (none)) else (none))) else (none)) = some r := H
 have A3 := mK A30
 clear A30
 by_cases c4 : t324.size + 1 ≤ 9223372036854775807
 ·
  rw [if_pos c4] at H
  have c4b0 := eq_true c4
  have c4b1 : decide (t324.size + 1 ≤ 9223372036854775807) = true := decide_eq_true c4
  try have c4b2 : (9223372036854775807 < t324.size + 1) = False := eq_false (Nat.not_lt.2 c4)
  try (have c4s2 := c4b2; simp only [ByteArray.size_append, Go.Proofs.Ytmebogkhdbbbbaa.C.ba_lit, List.size_toArray, List.length_cons, List.length_nil, Nat.zero_add, Nat.reduceAdd] at c4s2)
  replace H := oB H
  obtain ⟨t325, A50, H⟩ := H
  replace H : (if (t324 ++ (⟨#[32]⟩ : ByteArray)).size + t325.size ≤ 9223372036854775807 then (if ((t324 ++ (⟨#[32]⟩ : ByteArray)) ++ t325).size + 1 ≤ 9223372036854775807 then ((pascalineref02_Decode.f k a1).bind fun bt326 => (if bt326.2.2.2.2.2 = 0 then ((pascalineref02_Text.f k bt326.1 bt326.2.1 bt326.2.2.1 bt326.2.2.2.1 bt326.2.2.2.2.1).bind fun bt333 => ((pascalineref06_leads.f bt326.1).bind fun t335 => (if t335 = true then (if bt333.1.size + 4 ≤ 9223372036854775807 then ((pascalineref01_Hex.f k ((((a0 + 4) % 4294967296) + ((4 * ((bt326.2.2.2.2.1) % 4294967296)) % 4294967296)) % 4294967296)).bind fun t336 => (if (bt333.1 ++ (⟨#[32, 45, 62, 32]⟩ : ByteArray)).size + t336.size ≤ 9223372036854775807 then (if (((t324 ++ (⟨#[32]⟩ : ByteArray)) ++ t325) ++ (⟨#[32]⟩ : ByteArray)).size + ((bt333.1 ++ (⟨#[32, 45, 62, 32]⟩ : ByteArray)) ++ t336).size ≤ 9223372036854775807 then (some ((((t324 ++ (⟨#[32]⟩ : ByteArray)) ++ t325) ++ (⟨#[32]⟩ : ByteArray)) ++ ((bt333.1 ++ (⟨#[32, 45, 62, 32]⟩ : ByteArray)) ++ t336))) else (none)) else (none))) else (none)) else (if (((t324 ++ (⟨#[32]⟩ : ByteArray)) ++ t325) ++ (⟨#[32]⟩ : ByteArray)).size + bt333.1.size ≤ 9223372036854775807 then (some ((((t324 ++ (⟨#[32]⟩ : ByteArray)) ++ t325) ++ (⟨#[32]⟩ : ByteArray)) ++ bt333.1)) else (none))))) else (if (((t324 ++ (⟨#[32]⟩ : ByteArray)) ++ t325) ++ (⟨#[32]⟩ : ByteArray)).size + 1 ≤ 9223372036854775807 then (some ((((t324 ++ (⟨#[32]⟩ : ByteArray)) ++ t325) ++ (⟨#[32]⟩ : ByteArray)) ++ (⟨#[63]⟩ : ByteArray))) else (none)))) else (none)) else (none)) = some r := H
  have A5 := mK A50
  clear A50
  by_cases c6 : (t324 ++ (⟨#[32]⟩ : ByteArray)).size + t325.size ≤ 9223372036854775807
  ·
   rw [if_pos c6] at H
   have c6b0 := eq_true c6
   have c6b1 : decide ((t324 ++ (⟨#[32]⟩ : ByteArray)).size + t325.size ≤ 9223372036854775807) = true := decide_eq_true c6
   try have c6b2 : (9223372036854775807 < (t324 ++ (⟨#[32]⟩ : ByteArray)).size + t325.size) = False := eq_false (Nat.not_lt.2 c6)
   try (have c6s2 := c6b2; simp only [ByteArray.size_append, Go.Proofs.Ytmebogkhdbbbbaa.C.ba_lit, List.size_toArray, List.length_cons, List.length_nil, Nat.zero_add, Nat.reduceAdd] at c6s2)
   by_cases c7 : ((t324 ++ (⟨#[32]⟩ : ByteArray)) ++ t325).size + 1 ≤ 9223372036854775807
   ·
    rw [if_pos c7] at H
    have c7b0 := eq_true c7
    have c7b1 : decide (((t324 ++ (⟨#[32]⟩ : ByteArray)) ++ t325).size + 1 ≤ 9223372036854775807) = true := decide_eq_true c7
    try have c7b2 : (9223372036854775807 < ((t324 ++ (⟨#[32]⟩ : ByteArray)) ++ t325).size + 1) = False := eq_false (Nat.not_lt.2 c7)
    try (have c7s2 := c7b2; simp only [ByteArray.size_append, Go.Proofs.Ytmebogkhdbbbbaa.C.ba_lit, List.size_toArray, List.length_cons, List.length_nil, Nat.zero_add, Nat.reduceAdd] at c7s2)
    replace H := oB H
    obtain ⟨⟨t326, t327, t328, t329, t330, t331⟩, A80, H⟩ := H
    replace H : (if t331 = 0 then ((pascalineref02_Text.f k t326 t327 t328 t329 t330).bind fun bt333 => ((pascalineref06_leads.f t326).bind fun t335 => (if t335 = true then (if bt333.1.size + 4 ≤ 9223372036854775807 then ((pascalineref01_Hex.f k ((((a0 + 4) % 4294967296) + ((4 * ((t330) % 4294967296)) % 4294967296)) % 4294967296)).bind fun t336 => (if (bt333.1 ++ (⟨#[32, 45, 62, 32]⟩ : ByteArray)).size + t336.size ≤ 9223372036854775807 then (if (((t324 ++ (⟨#[32]⟩ : ByteArray)) ++ t325) ++ (⟨#[32]⟩ : ByteArray)).size + ((bt333.1 ++ (⟨#[32, 45, 62, 32]⟩ : ByteArray)) ++ t336).size ≤ 9223372036854775807 then (some ((((t324 ++ (⟨#[32]⟩ : ByteArray)) ++ t325) ++ (⟨#[32]⟩ : ByteArray)) ++ ((bt333.1 ++ (⟨#[32, 45, 62, 32]⟩ : ByteArray)) ++ t336))) else (none)) else (none))) else (none)) else (if (((t324 ++ (⟨#[32]⟩ : ByteArray)) ++ t325) ++ (⟨#[32]⟩ : ByteArray)).size + bt333.1.size ≤ 9223372036854775807 then (some ((((t324 ++ (⟨#[32]⟩ : ByteArray)) ++ t325) ++ (⟨#[32]⟩ : ByteArray)) ++ bt333.1)) else (none))))) else (if (((t324 ++ (⟨#[32]⟩ : ByteArray)) ++ t325) ++ (⟨#[32]⟩ : ByteArray)).size + 1 ≤ 9223372036854775807 then (some ((((t324 ++ (⟨#[32]⟩ : ByteArray)) ++ t325) ++ (⟨#[32]⟩ : ByteArray)) ++ (⟨#[63]⟩ : ByteArray))) else (none))) = some r := H
    have A8 := mK A80
    clear A80
    by_cases c9 : t331 = 0
    ·
     rw [if_pos c9] at H
     have c9b0 : (t331 == 0) = true := beq_iff_eq.mpr c9
     have c9b1 : (t331 != 0) = false := bR c9
     clear c9
     replace H := oB H
     obtain ⟨⟨t333, t334⟩, A100, H⟩ := H
     replace H : ((pascalineref06_leads.f t326).bind fun t335 => (if t335 = true then (if t333.size + 4 ≤ 9223372036854775807 then ((pascalineref01_Hex.f k ((((a0 + 4) % 4294967296) + ((4 * ((t330) % 4294967296)) % 4294967296)) % 4294967296)).bind fun t336 => (if (t333 ++ (⟨#[32, 45, 62, 32]⟩ : ByteArray)).size + t336.size ≤ 9223372036854775807 then (if (((t324 ++ (⟨#[32]⟩ : ByteArray)) ++ t325) ++ (⟨#[32]⟩ : ByteArray)).size + ((t333 ++ (⟨#[32, 45, 62, 32]⟩ : ByteArray)) ++ t336).size ≤ 9223372036854775807 then (some ((((t324 ++ (⟨#[32]⟩ : ByteArray)) ++ t325) ++ (⟨#[32]⟩ : ByteArray)) ++ ((t333 ++ (⟨#[32, 45, 62, 32]⟩ : ByteArray)) ++ t336))) else (none)) else (none))) else (none)) else (if (((t324 ++ (⟨#[32]⟩ : ByteArray)) ++ t325) ++ (⟨#[32]⟩ : ByteArray)).size + t333.size ≤ 9223372036854775807 then (some ((((t324 ++ (⟨#[32]⟩ : ByteArray)) ++ t325) ++ (⟨#[32]⟩ : ByteArray)) ++ t333)) else (none)))) = some r := H
     have A10 := mK A100
     clear A100
     replace H := oB H
     obtain ⟨t335, A110, H⟩ := H
     replace H : (if t335 = true then (if t333.size + 4 ≤ 9223372036854775807 then ((pascalineref01_Hex.f k ((((a0 + 4) % 4294967296) + ((4 * ((t330) % 4294967296)) % 4294967296)) % 4294967296)).bind fun t336 => (if (t333 ++ (⟨#[32, 45, 62, 32]⟩ : ByteArray)).size + t336.size ≤ 9223372036854775807 then (if (((t324 ++ (⟨#[32]⟩ : ByteArray)) ++ t325) ++ (⟨#[32]⟩ : ByteArray)).size + ((t333 ++ (⟨#[32, 45, 62, 32]⟩ : ByteArray)) ++ t336).size ≤ 9223372036854775807 then (some ((((t324 ++ (⟨#[32]⟩ : ByteArray)) ++ t325) ++ (⟨#[32]⟩ : ByteArray)) ++ ((t333 ++ (⟨#[32, 45, 62, 32]⟩ : ByteArray)) ++ t336))) else (none)) else (none))) else (none)) else (if (((t324 ++ (⟨#[32]⟩ : ByteArray)) ++ t325) ++ (⟨#[32]⟩ : ByteArray)).size + t333.size ≤ 9223372036854775807 then (some ((((t324 ++ (⟨#[32]⟩ : ByteArray)) ++ t325) ++ (⟨#[32]⟩ : ByteArray)) ++ t333)) else (none))) = some r := H
     have A11 := mK A110
     clear A110
     by_cases c12 : t335 = true
     ·
      subst c12
      have H1 : (if t333.size + 4 ≤ 9223372036854775807 then ((pascalineref01_Hex.f k ((((a0 + 4) % 4294967296) + ((4 * ((t330) % 4294967296)) % 4294967296)) % 4294967296)).bind fun t336 => (if (t333 ++ (⟨#[32, 45, 62, 32]⟩ : ByteArray)).size + t336.size ≤ 9223372036854775807 then (if (((t324 ++ (⟨#[32]⟩ : ByteArray)) ++ t325) ++ (⟨#[32]⟩ : ByteArray)).size + ((t333 ++ (⟨#[32, 45, 62, 32]⟩ : ByteArray)) ++ t336).size ≤ 9223372036854775807 then (some ((((t324 ++ (⟨#[32]⟩ : ByteArray)) ++ t325) ++ (⟨#[32]⟩ : ByteArray)) ++ ((t333 ++ (⟨#[32, 45, 62, 32]⟩ : ByteArray)) ++ t336))) else (none)) else (none))) else (none)) = some r := by rw [if_pos rfl] at H; exact H
      clear H
      have H := H1
      clear H1
      by_cases c13 : t333.size + 4 ≤ 9223372036854775807
      ·
       rw [if_pos c13] at H
       have c13b0 := eq_true c13
       have c13b1 : decide (t333.size + 4 ≤ 9223372036854775807) = true := decide_eq_true c13
       try have c13b2 : (9223372036854775807 < t333.size + 4) = False := eq_false (Nat.not_lt.2 c13)
       try (have c13s2 := c13b2; simp only [ByteArray.size_append, Go.Proofs.Ytmebogkhdbbbbaa.C.ba_lit, List.size_toArray, List.length_cons, List.length_nil, Nat.zero_add, Nat.reduceAdd] at c13s2)
       replace H := oB H
       obtain ⟨t336, A140, H⟩ := H
       replace H : (if (t333 ++ (⟨#[32, 45, 62, 32]⟩ : ByteArray)).size + t336.size ≤ 9223372036854775807 then (if (((t324 ++ (⟨#[32]⟩ : ByteArray)) ++ t325) ++ (⟨#[32]⟩ : ByteArray)).size + ((t333 ++ (⟨#[32, 45, 62, 32]⟩ : ByteArray)) ++ t336).size ≤ 9223372036854775807 then (some ((((t324 ++ (⟨#[32]⟩ : ByteArray)) ++ t325) ++ (⟨#[32]⟩ : ByteArray)) ++ ((t333 ++ (⟨#[32, 45, 62, 32]⟩ : ByteArray)) ++ t336))) else (none)) else (none)) = some r := H
       have A14 := mK A140
       clear A140
       by_cases c15 : (t333 ++ (⟨#[32, 45, 62, 32]⟩ : ByteArray)).size + t336.size ≤ 9223372036854775807
       ·
        rw [if_pos c15] at H
        have c15b0 := eq_true c15
        have c15b1 : decide ((t333 ++ (⟨#[32, 45, 62, 32]⟩ : ByteArray)).size + t336.size ≤ 9223372036854775807) = true := decide_eq_true c15
        try have c15b2 : (9223372036854775807 < (t333 ++ (⟨#[32, 45, 62, 32]⟩ : ByteArray)).size + t336.size) = False := eq_false (Nat.not_lt.2 c15)
        try (have c15s2 := c15b2; simp only [ByteArray.size_append, Go.Proofs.Ytmebogkhdbbbbaa.C.ba_lit, List.size_toArray, List.length_cons, List.length_nil, Nat.zero_add, Nat.reduceAdd] at c15s2)
        by_cases c16 : (((t324 ++ (⟨#[32]⟩ : ByteArray)) ++ t325) ++ (⟨#[32]⟩ : ByteArray)).size + ((t333 ++ (⟨#[32, 45, 62, 32]⟩ : ByteArray)) ++ t336).size ≤ 9223372036854775807
        ·
         rw [if_pos c16] at H
         have c16b0 := eq_true c16
         have c16b1 : decide ((((t324 ++ (⟨#[32]⟩ : ByteArray)) ++ t325) ++ (⟨#[32]⟩ : ByteArray)).size + ((t333 ++ (⟨#[32, 45, 62, 32]⟩ : ByteArray)) ++ t336).size ≤ 9223372036854775807) = true := decide_eq_true c16
         try have c16b2 : (9223372036854775807 < (((t324 ++ (⟨#[32]⟩ : ByteArray)) ++ t325) ++ (⟨#[32]⟩ : ByteArray)).size + ((t333 ++ (⟨#[32, 45, 62, 32]⟩ : ByteArray)) ++ t336).size) = False := eq_false (Nat.not_lt.2 c16)
         try (have c16s2 := c16b2; simp only [ByteArray.size_append, Go.Proofs.Ytmebogkhdbbbbaa.C.ba_lit, List.size_toArray, List.length_cons, List.length_nil, Nat.zero_add, Nat.reduceAdd] at c16s2)
         obtain rfl := Option.some.inj H
         go_enter Try.func35, Try.ntmps35
         go_wp2_with (first | ((with_reducible refine gate_callee (f := 27) rfl ?_); refine goesL_ (some 11) rfl rfl Try.func27 (by kernel_rfl) rfl #[.int .u32 a0] rfl (by (try simp only [List.map_toArray, List.map_cons, List.map_nil]); first | done | rfl) ?_; (with_reducible refine (pascalineref01_Hex.calls k a0 t324 _ A3.out).mono ?_); rintro e w' ⟨rfl, ⟨nd, rfl⟩⟩; refine ⟨_, rfl, ?_⟩) | ((with_reducible refine gate_callee (f := 27) rfl ?_); refine goesL_ (some 14) rfl rfl Try.func27 (by kernel_rfl) rfl #[.int .u32 a1] rfl (by (try simp only [List.map_toArray, List.map_cons, List.map_nil]); first | done | rfl) ?_; (with_reducible refine (pascalineref01_Hex.calls k a1 t325 _ A5.out).mono ?_); rintro e w' ⟨rfl, ⟨nd, rfl⟩⟩; refine ⟨_, rfl, ?_⟩) | ((with_reducible refine gate_callee (f := 42) rfl ?_); refine goesL_ (some 19) rfl rfl Try.func42 (by kernel_rfl) rfl #[.int .u32 a1] rfl (by (try simp only [List.map_toArray, List.map_cons, List.map_nil]); first | done | rfl) ?_; (with_reducible refine (pascalineref02_Decode.calls k a1 t326 t327 t328 t329 t330 t331 _ A8.out).mono ?_); rintro e w17 ⟨rfl, hb⟩; refine ⟨_, rfl, ?_⟩; have n0_ := mK (bP (by repeat (first | (with_reducible first | exact HB.out | apply bA | apply bN | apply bD) | exact HB.out)) hb); clear HB; have HB := n0_; clear n0_; (try clear hb)) | ((with_reducible refine gate_dst (N := 6) rfl ?_); refine box_event ?hg (N := 6) ?hd (cs := #[.int .i64 0, .int .i64 0, .int .i64 0, .int .i64 0, .int .i64 0]) (t := 102) ?hr ?_; (case hd => rfl); (case hg => rfl); (case hr => first | (go_simp; done) | (go_simp; rfl)); intro gb332 hg w18 hbox hb; have n0_ := mK (bP (by repeat (first | (with_reducible first | exact HB.out | apply bA | apply bN | apply bD) | exact HB.out)) hb); have n1_ := mK (hbox); have n2_ := mK ((by rw [hg]; exact (bZ (by repeat (first | (with_reducible first | exact HB.out | apply bA | apply bN | apply bD) | exact HB.out))) : w.heap.size ≤ gb332)); have n3_ := mK ((by rw [hg]; exact (bZ (by repeat (first | (with_reducible first | exact HB.out | apply bA | apply bN | apply bD) | exact HB.out))) : w.heap.size ≤ gb332)); clear HB; have HB := n0_; have BK332 := n1_; have GW332 := n2_; have GE332 := n3_; clear n0_ n1_ n2_ n3_; clear hb hbox hg; obtain ⟨hcz19_0, hcz19_1, hcz19_2, hcz19_3, hcz19_4, hfz19_0, hfz19_1, hfz19_2, hfz19_3, hfz19_4⟩ := cf5 BK332.out) | ((with_reducible refine gate_callee (f := 43) rfl ?_); refine goesL_ (some 28) rfl rfl Try.func43 (by kernel_rfl) rfl #[.agg #[.int .i64 t326, .int .i64 t327, .int .i64 t328, .int .i64 t329, .int .i64 t330]] rfl (by (try simp only [List.map_toArray, List.map_cons, List.map_nil]); first | done | rfl) ?_; (with_reducible refine (pascalineref02_Text.calls k t326 t327 t328 t329 t330 t333 t334 _ A10.out).mono ?_); rintro e w20 ⟨rfl, hb⟩; refine ⟨_, rfl, ?_⟩; have n0_ := mK (kB (g := gb332) (o := o5 t326 t327 t328 t329 t330 102) (by (with_reducible repeat (first | refine kN ?_ _ | refine kD ?_ | refine kA ?_ _)); refine kP (cs := #[.int .i64 t326, .int .i64 t327, .int .i64 t328, .int .i64 t329, .int .i64 0]) ?_ 4 _ rfl; (with_reducible repeat (first | refine kN ?_ _ | refine kD ?_ | refine kA ?_ _)); refine kP (cs := #[.int .i64 t326, .int .i64 t327, .int .i64 t328, .int .i64 0, .int .i64 0]) ?_ 3 _ rfl; (with_reducible repeat (first | refine kN ?_ _ | refine kD ?_ | refine kA ?_ _)); refine kP (cs := #[.int .i64 t326, .int .i64 t327, .int .i64 0, .int .i64 0, .int .i64 0]) ?_ 2 _ rfl; (with_reducible repeat (first | refine kN ?_ _ | refine kD ?_ | refine kA ?_ _)); refine kP (cs := #[.int .i64 t326, .int .i64 0, .int .i64 0, .int .i64 0, .int .i64 0]) ?_ 1 _ rfl; (with_reducible repeat (first | refine kN ?_ _ | refine kD ?_ | refine kA ?_ _)); refine kP (cs := #[.int .i64 0, .int .i64 0, .int .i64 0, .int .i64 0, .int .i64 0]) ?_ 0 _ rfl; (with_reducible repeat (first | refine kN ?_ _ | refine kD ?_ | refine kA ?_ _)); exact BK332.out) hb); have n1_ := mK (bP (by repeat (first | (with_reducible first | exact HB.out | apply bA | apply bN | apply bD | refine bS ?_ GE332.out) | exact HB.out)) hb); clear BK332; clear HB; have BK332 := n0_; have HB := n1_; clear n0_ n1_; (try clear hb); obtain ⟨hcz21_0, hcz21_1, hcz21_2, hcz21_3, hcz21_4, hfz21_0, hfz21_1, hfz21_2, hfz21_3, hfz21_4⟩ := cf5 BK332.out) | ((with_reducible refine gate_callee (f := 44) rfl ?_); refine goesL_ (some 33) rfl rfl Try.func44 (by kernel_rfl) rfl #[.int .i64 t326] rfl (by (try simp only [List.map_toArray, List.map_cons, List.map_nil]); first | done | rfl) ?_; (with_reducible refine (pascalineref06_leads.calls t326 true _ A11.out).mono ?_); rintro e w' ⟨rfl, ⟨nd, rfl⟩⟩; refine ⟨_, rfl, ?_⟩) | ((with_reducible refine gate_callee (f := 27) rfl ?_); refine goesL_ (some 43) rfl rfl Try.func27 (by kernel_rfl) rfl #[.int .u32 ((((a0 + 4) % 4294967296) + ((4 * ((t330) % 4294967296)) % 4294967296)) % 4294967296)] rfl (by (try simp only [List.map_toArray, List.map_cons, List.map_nil]); first | done | rfl) ?_; (with_reducible refine (pascalineref01_Hex.calls k ((((a0 + 4) % 4294967296) + ((4 * ((t330) % 4294967296)) % 4294967296)) % 4294967296) t336 _ A14.out).mono ?_); rintro e w' ⟨rfl, ⟨nd, rfl⟩⟩; refine ⟨_, rfl, ?_⟩))
         go_ret
         exact ⟨by first | rfl | (simp [errW_none, errW_some] <;> rfl) | (simp [*, errW_none, errW_some] <;> rfl), by repeat (first | (with_reducible first | exact HB.out | apply bA | apply bN | apply bD | refine bS ?_ GE332.out) | exact HB.out)⟩
        ·
         rw [if_neg c16] at H
         exact absurd H (by simp)
       ·
        rw [if_neg c15] at H
        exact absurd H (by simp)
      ·
       rw [if_neg c13] at H
       exact absurd H (by simp)
     ·
      replace c12 := Bool.eq_false_iff.mpr c12
      subst c12
      have H1 : (if (((t324 ++ (⟨#[32]⟩ : ByteArray)) ++ t325) ++ (⟨#[32]⟩ : ByteArray)).size + t333.size ≤ 9223372036854775807 then (some ((((t324 ++ (⟨#[32]⟩ : ByteArray)) ++ t325) ++ (⟨#[32]⟩ : ByteArray)) ++ t333)) else (none)) = some r := by rw [if_neg (show ¬ (false = true) by decide)] at H; exact H
      clear H
      have H := H1
      clear H1
      by_cases c22 : (((t324 ++ (⟨#[32]⟩ : ByteArray)) ++ t325) ++ (⟨#[32]⟩ : ByteArray)).size + t333.size ≤ 9223372036854775807
      ·
       rw [if_pos c22] at H
       have c22b0 := eq_true c22
       have c22b1 : decide ((((t324 ++ (⟨#[32]⟩ : ByteArray)) ++ t325) ++ (⟨#[32]⟩ : ByteArray)).size + t333.size ≤ 9223372036854775807) = true := decide_eq_true c22
       try have c22b2 : (9223372036854775807 < (((t324 ++ (⟨#[32]⟩ : ByteArray)) ++ t325) ++ (⟨#[32]⟩ : ByteArray)).size + t333.size) = False := eq_false (Nat.not_lt.2 c22)
       try (have c22s2 := c22b2; simp only [ByteArray.size_append, Go.Proofs.Ytmebogkhdbbbbaa.C.ba_lit, List.size_toArray, List.length_cons, List.length_nil, Nat.zero_add, Nat.reduceAdd] at c22s2)
       obtain rfl := Option.some.inj H
       go_enter Try.func35, Try.ntmps35
       go_wp2_with (first | ((with_reducible refine gate_callee (f := 27) rfl ?_); refine goesL_ (some 11) rfl rfl Try.func27 (by kernel_rfl) rfl #[.int .u32 a0] rfl (by (try simp only [List.map_toArray, List.map_cons, List.map_nil]); first | done | rfl) ?_; (with_reducible refine (pascalineref01_Hex.calls k a0 t324 _ A3.out).mono ?_); rintro e w' ⟨rfl, ⟨nd, rfl⟩⟩; refine ⟨_, rfl, ?_⟩) | ((with_reducible refine gate_callee (f := 27) rfl ?_); refine goesL_ (some 14) rfl rfl Try.func27 (by kernel_rfl) rfl #[.int .u32 a1] rfl (by (try simp only [List.map_toArray, List.map_cons, List.map_nil]); first | done | rfl) ?_; (with_reducible refine (pascalineref01_Hex.calls k a1 t325 _ A5.out).mono ?_); rintro e w' ⟨rfl, ⟨nd, rfl⟩⟩; refine ⟨_, rfl, ?_⟩) | ((with_reducible refine gate_callee (f := 42) rfl ?_); refine goesL_ (some 19) rfl rfl Try.func42 (by kernel_rfl) rfl #[.int .u32 a1] rfl (by (try simp only [List.map_toArray, List.map_cons, List.map_nil]); first | done | rfl) ?_; (with_reducible refine (pascalineref02_Decode.calls k a1 t326 t327 t328 t329 t330 t331 _ A8.out).mono ?_); rintro e w23 ⟨rfl, hb⟩; refine ⟨_, rfl, ?_⟩; have n0_ := mK (bP (by repeat (first | (with_reducible first | exact HB.out | apply bA | apply bN | apply bD) | exact HB.out)) hb); clear HB; have HB := n0_; clear n0_; (try clear hb)) | ((with_reducible refine gate_dst (N := 6) rfl ?_); refine box_event ?hg (N := 6) ?hd (cs := #[.int .i64 0, .int .i64 0, .int .i64 0, .int .i64 0, .int .i64 0]) (t := 102) ?hr ?_; (case hd => rfl); (case hg => rfl); (case hr => first | (go_simp; done) | (go_simp; rfl)); intro gb332 hg w24 hbox hb; have n0_ := mK (bP (by repeat (first | (with_reducible first | exact HB.out | apply bA | apply bN | apply bD) | exact HB.out)) hb); have n1_ := mK (hbox); have n2_ := mK ((by rw [hg]; exact (bZ (by repeat (first | (with_reducible first | exact HB.out | apply bA | apply bN | apply bD) | exact HB.out))) : w.heap.size ≤ gb332)); have n3_ := mK ((by rw [hg]; exact (bZ (by repeat (first | (with_reducible first | exact HB.out | apply bA | apply bN | apply bD) | exact HB.out))) : w.heap.size ≤ gb332)); clear HB; have HB := n0_; have BK332 := n1_; have GW332 := n2_; have GE332 := n3_; clear n0_ n1_ n2_ n3_; clear hb hbox hg; obtain ⟨hcz25_0, hcz25_1, hcz25_2, hcz25_3, hcz25_4, hfz25_0, hfz25_1, hfz25_2, hfz25_3, hfz25_4⟩ := cf5 BK332.out) | ((with_reducible refine gate_callee (f := 43) rfl ?_); refine goesL_ (some 28) rfl rfl Try.func43 (by kernel_rfl) rfl #[.agg #[.int .i64 t326, .int .i64 t327, .int .i64 t328, .int .i64 t329, .int .i64 t330]] rfl (by (try simp only [List.map_toArray, List.map_cons, List.map_nil]); first | done | rfl) ?_; (with_reducible refine (pascalineref02_Text.calls k t326 t327 t328 t329 t330 t333 t334 _ A10.out).mono ?_); rintro e w26 ⟨rfl, hb⟩; refine ⟨_, rfl, ?_⟩; have n0_ := mK (kB (g := gb332) (o := o5 t326 t327 t328 t329 t330 102) (by (with_reducible repeat (first | refine kN ?_ _ | refine kD ?_ | refine kA ?_ _)); refine kP (cs := #[.int .i64 t326, .int .i64 t327, .int .i64 t328, .int .i64 t329, .int .i64 0]) ?_ 4 _ rfl; (with_reducible repeat (first | refine kN ?_ _ | refine kD ?_ | refine kA ?_ _)); refine kP (cs := #[.int .i64 t326, .int .i64 t327, .int .i64 t328, .int .i64 0, .int .i64 0]) ?_ 3 _ rfl; (with_reducible repeat (first | refine kN ?_ _ | refine kD ?_ | refine kA ?_ _)); refine kP (cs := #[.int .i64 t326, .int .i64 t327, .int .i64 0, .int .i64 0, .int .i64 0]) ?_ 2 _ rfl; (with_reducible repeat (first | refine kN ?_ _ | refine kD ?_ | refine kA ?_ _)); refine kP (cs := #[.int .i64 t326, .int .i64 0, .int .i64 0, .int .i64 0, .int .i64 0]) ?_ 1 _ rfl; (with_reducible repeat (first | refine kN ?_ _ | refine kD ?_ | refine kA ?_ _)); refine kP (cs := #[.int .i64 0, .int .i64 0, .int .i64 0, .int .i64 0, .int .i64 0]) ?_ 0 _ rfl; (with_reducible repeat (first | refine kN ?_ _ | refine kD ?_ | refine kA ?_ _)); exact BK332.out) hb); have n1_ := mK (bP (by repeat (first | (with_reducible first | exact HB.out | apply bA | apply bN | apply bD | refine bS ?_ GE332.out) | exact HB.out)) hb); clear BK332; clear HB; have BK332 := n0_; have HB := n1_; clear n0_ n1_; (try clear hb); obtain ⟨hcz27_0, hcz27_1, hcz27_2, hcz27_3, hcz27_4, hfz27_0, hfz27_1, hfz27_2, hfz27_3, hfz27_4⟩ := cf5 BK332.out) | ((with_reducible refine gate_callee (f := 44) rfl ?_); refine goesL_ (some 33) rfl rfl Try.func44 (by kernel_rfl) rfl #[.int .i64 t326] rfl (by (try simp only [List.map_toArray, List.map_cons, List.map_nil]); first | done | rfl) ?_; (with_reducible refine (pascalineref06_leads.calls t326 false _ A11.out).mono ?_); rintro e w' ⟨rfl, ⟨nd, rfl⟩⟩; refine ⟨_, rfl, ?_⟩))
       go_ret
       exact ⟨by first | rfl | (simp [errW_none, errW_some] <;> rfl) | (simp [*, errW_none, errW_some] <;> rfl), by repeat (first | (with_reducible first | exact HB.out | apply bA | apply bN | apply bD | refine bS ?_ GE332.out) | exact HB.out)⟩
      ·
       rw [if_neg c22] at H
       exact absurd H (by simp)
    ·
     rw [if_neg c9] at H
     have c9b0 : (t331 == 0) = false := bQ c9
     have c9b1 : (t331 != 0) = true := bne_iff_ne.mpr c9
     by_cases c28 : (((t324 ++ (⟨#[32]⟩ : ByteArray)) ++ t325) ++ (⟨#[32]⟩ : ByteArray)).size + 1 ≤ 9223372036854775807
     ·
      rw [if_pos c28] at H
      have c28b0 := eq_true c28
      have c28b1 : decide ((((t324 ++ (⟨#[32]⟩ : ByteArray)) ++ t325) ++ (⟨#[32]⟩ : ByteArray)).size + 1 ≤ 9223372036854775807) = true := decide_eq_true c28
      try have c28b2 : (9223372036854775807 < (((t324 ++ (⟨#[32]⟩ : ByteArray)) ++ t325) ++ (⟨#[32]⟩ : ByteArray)).size + 1) = False := eq_false (Nat.not_lt.2 c28)
      try (have c28s2 := c28b2; simp only [ByteArray.size_append, Go.Proofs.Ytmebogkhdbbbbaa.C.ba_lit, List.size_toArray, List.length_cons, List.length_nil, Nat.zero_add, Nat.reduceAdd] at c28s2)
      obtain rfl := Option.some.inj H
      go_enter Try.func35, Try.ntmps35
      go_wp2_with (first | ((with_reducible refine gate_callee (f := 27) rfl ?_); refine goesL_ (some 11) rfl rfl Try.func27 (by kernel_rfl) rfl #[.int .u32 a0] rfl (by (try simp only [List.map_toArray, List.map_cons, List.map_nil]); first | done | rfl) ?_; (with_reducible refine (pascalineref01_Hex.calls k a0 t324 _ A3.out).mono ?_); rintro e w' ⟨rfl, ⟨nd, rfl⟩⟩; refine ⟨_, rfl, ?_⟩) | ((with_reducible refine gate_callee (f := 27) rfl ?_); refine goesL_ (some 14) rfl rfl Try.func27 (by kernel_rfl) rfl #[.int .u32 a1] rfl (by (try simp only [List.map_toArray, List.map_cons, List.map_nil]); first | done | rfl) ?_; (with_reducible refine (pascalineref01_Hex.calls k a1 t325 _ A5.out).mono ?_); rintro e w' ⟨rfl, ⟨nd, rfl⟩⟩; refine ⟨_, rfl, ?_⟩) | ((with_reducible refine gate_callee (f := 42) rfl ?_); refine goesL_ (some 19) rfl rfl Try.func42 (by kernel_rfl) rfl #[.int .u32 a1] rfl (by (try simp only [List.map_toArray, List.map_cons, List.map_nil]); first | done | rfl) ?_; (with_reducible refine (pascalineref02_Decode.calls k a1 t326 t327 t328 t329 t330 t331 _ A8.out).mono ?_); rintro e w29 ⟨rfl, hb⟩; refine ⟨_, rfl, ?_⟩; have n0_ := mK (bP (by repeat (first | (with_reducible first | exact HB.out | apply bA | apply bN | apply bD) | exact HB.out)) hb); clear HB; have HB := n0_; clear n0_; (try clear hb)) | ((with_reducible refine gate_dst (N := 6) rfl ?_); refine box_event ?hg (N := 6) ?hd (cs := #[.int .i64 0, .int .i64 0, .int .i64 0, .int .i64 0, .int .i64 0]) (t := 102) ?hr ?_; (case hd => rfl); (case hg => rfl); (case hr => first | (go_simp; done) | (go_simp; rfl)); intro gb332 hg w30 hbox hb; have n0_ := mK (bP (by repeat (first | (with_reducible first | exact HB.out | apply bA | apply bN | apply bD) | exact HB.out)) hb); have n1_ := mK (hbox); have n2_ := mK ((by rw [hg]; exact (bZ (by repeat (first | (with_reducible first | exact HB.out | apply bA | apply bN | apply bD) | exact HB.out))) : w.heap.size ≤ gb332)); have n3_ := mK ((by rw [hg]; exact (bZ (by repeat (first | (with_reducible first | exact HB.out | apply bA | apply bN | apply bD) | exact HB.out))) : w.heap.size ≤ gb332)); clear HB; have HB := n0_; have BK332 := n1_; have GW332 := n2_; have GE332 := n3_; clear n0_ n1_ n2_ n3_; clear hb hbox hg; obtain ⟨hcz31_0, hcz31_1, hcz31_2, hcz31_3, hcz31_4, hfz31_0, hfz31_1, hfz31_2, hfz31_3, hfz31_4⟩ := cf5 BK332.out))
      go_ret
      exact ⟨by first | rfl | (simp [errW_none, errW_some] <;> rfl) | (simp [*, errW_none, errW_some] <;> rfl), by repeat (first | (with_reducible first | exact HB.out | apply bA | apply bN | apply bD | refine bS ?_ GE332.out) | exact HB.out)⟩
     ·
      rw [if_neg c28] at H
      exact absurd H (by simp)
   ·
    rw [if_neg c7] at H
    exact absurd H (by simp)
  ·
   rw [if_neg c6] at H
   exact absurd H (by simp)
 ·
  rw [if_neg c4] at H
  exact absurd H (by simp)


/-! ### pascalineref06_Print: function 17 -/
def pascalineref06_Print.l0 : Nat → Int → List Int → ByteArray → Int → Option (ByteArray)
 | 0, _, _, _, _ => none
 | k + 1, x0, x1, x5, x6 => if x6 < (x1.length : Int) then (if 0 ≤ x6 then ((pascalineref06_Line.f k ((x0 + ((4 * ((x6) % 4294967296)) % 4294967296)) % 4294967296) (rd x1 x6)).bind fun t338 => (if x5.size + t338.size ≤ 9223372036854775807 then (if (x5 ++ t338).size + 1 ≤ 9223372036854775807 then (pascalineref06_Print.l0 k x0 x1 ((x5 ++ t338) ++ (⟨#[10]⟩ : ByteArray)) (wrap64 (x6 + 1))) else (none)) else (none))) else (none)) else (some x5)
def pascalineref06_Print.f (k : Nat) (a0 : Int) (l1 : List Int) : Option (ByteArray) := pascalineref06_Print.l0 k a0 l1 (⟨#[]⟩ : ByteArray) 0
theorem pascalineref06_Print.mono_l : ∀ k, (∀ y0 y1 y2 y3, LeO (pascalineref06_Print.l0 k y0 y1 y2 y3) (pascalineref06_Print.l0 (k + 1) y0 y1 y2 y3))
 | 0 => fun _ _ _ _ r h => by simp [pascalineref06_Print.l0] at h
 | k + 1 => by
  have ih0 := pascalineref06_Print.mono_l k
  ·
   intro y0 y1 y2 y3
   unfold pascalineref06_Print.l0
   repeat' first
   | (with_reducible exact ih0 _ _ _ _)
   | (with_reducible exact pascalineref06_Line.mono _ _ _)
   | (with_reducible exact LeO.refl _)
   | (with_reducible exact LeO.none _)
   | (with_reducible refine LeO.ite ?_ ?_)
   | (with_reducible refine LeO.bind ?_ (fun _ => ?_))
   | exact LeO.none _
   | refine LeO.ite ?_ ?_
   | refine LeO.bind ?_ (fun _ => ?_)
theorem pascalineref06_Print.mono : ∀ a0 a1 k, LeO (pascalineref06_Print.f k a0 a1) (pascalineref06_Print.f (k + 1) a0 a1) := by
 intro a0 a1 k
 have ih0 := pascalineref06_Print.mono_l k
 unfold pascalineref06_Print.f
 repeat' first
  | (with_reducible exact ih0 _ _ _ _)
  | (with_reducible exact pascalineref06_Line.mono _ _ _)
  | (with_reducible exact LeO.refl _)
  | (with_reducible exact LeO.none _)
  | (with_reducible refine LeO.ite ?_ ?_)
  | (with_reducible refine LeO.bind ?_ (fun _ => ?_))
  | exact LeO.none _
  | refine LeO.ite ?_ ?_
  | refine LeO.bind ?_ (fun _ => ?_)
set_option maxHeartbeats 8000000 in
set_option maxRecDepth 100000 in
theorem pascalineref06_Print.calls (k : Nat) (a0 : Int) (A1 : Option Addr) (c1 : Nat) (l1 : List Int) (r : ByteArray) (w : World) (hr1 : Kd.C (Kd.int .u32) w A1 l1.length l1) (hc1 : l1.length ≤ c1) (h : pascalineref06_Print.f k a0 l1 = some r) :
 Calls Try.prog 17 #[.int .u32 a0, .slice A1 l1.length c1] w fun e w' => e = .returned (.string r) ∧ Below w.heap.size w w' := by
 have HR1 := mK hr1
 have HC1 := mK hc1
 clear hr1 hc1
 have HB := mK (Below.refl w.heap.size w)
 have H : (pascalineref06_Print.l0 k a0 l1 (⟨#[]⟩ : ByteArray) 0) = some r := h
 clear h
 have H' := mK H
 clear H
 go_enter Try.func17, Try.ntmps17
 go_wp2
 go_loopg [5, 6] k (fun kq v5 v6 w' => ∃ (x5_1 : ByteArray) (x6_1 : Int), v5 = .string x5_1 ∧ v6 = .int .i64 x6_1 ∧ Aside0 (pascalineref06_Print.l0 kq a0 l1 x5_1 x6_1 = some r) ∧ Aside0 (kq ≤ k) ∧ Aside0 (Below w.heap.size w w'))
 case atStart => exact ⟨((⟨#[]⟩ : ByteArray)), (0), (by first | rfl | (simp; done) | (simp [*]; done)), (by first | rfl | (simp; done) | (simp [*]; done)), H', ⟨Nat.le_refl _⟩, ⟨by repeat (first | (with_reducible first | exact HB.out | apply bA | apply bN | apply bD) | exact HB.out)⟩⟩
 case round =>
  clear H'
  (try clear c1)
  obtain ⟨x5_1, x6_1, rfl, rfl, HA, HK1, HB⟩ := hrel
  cases gk with
  | zero => exact absurd HA.out (by simp [pascalineref06_Print.l0])
  | succ k1 =>
   have H := HA.out
   clear HA
   simp only [pascalineref06_Print.l0] at H
   by_cases c3 : x6_1 < (l1.length : Int)
   ·
    rw [if_pos c3] at H
    have c3b0 : decide (x6_1 < (l1.length : Int)) = true := decide_eq_true c3
    clear c3
    by_cases c4 : 0 ≤ x6_1
    ·
     rw [if_pos c4] at H
     have c4b0 : decide (0 ≤ x6_1) = true := decide_eq_true c4
     clear c4
     replace H := oB H
     obtain ⟨t338, A50, H⟩ := H
     replace H : (if x5_1.size + t338.size ≤ 9223372036854775807 then (if (x5_1 ++ t338).size + 1 ≤ 9223372036854775807 then (pascalineref06_Print.l0 k1 a0 l1 ((x5_1 ++ t338) ++ (⟨#[10]⟩ : ByteArray)) (wrap64 (x6_1 + 1))) else (none)) else (none)) = some r := H
     have A5 := mK A50
     clear A50
     by_cases c6 : x5_1.size + t338.size ≤ 9223372036854775807
     ·
      rw [if_pos c6] at H
      have c6b0 := eq_true c6
      have c6b1 : decide (x5_1.size + t338.size ≤ 9223372036854775807) = true := decide_eq_true c6
      try have c6b2 : (9223372036854775807 < x5_1.size + t338.size) = False := eq_false (Nat.not_lt.2 c6)
      try (have c6s2 := c6b2; simp only [ByteArray.size_append, Go.Proofs.Ytmebogkhdbbbbaa.C.ba_lit, List.size_toArray, List.length_cons, List.length_nil, Nat.zero_add, Nat.reduceAdd] at c6s2)
      by_cases c7 : (x5_1 ++ t338).size + 1 ≤ 9223372036854775807
      ·
       rw [if_pos c7] at H
       have c7b0 := eq_true c7
       have c7b1 : decide ((x5_1 ++ t338).size + 1 ≤ 9223372036854775807) = true := decide_eq_true c7
       try have c7b2 : (9223372036854775807 < (x5_1 ++ t338).size + 1) = False := eq_false (Nat.not_lt.2 c7)
       try (have c7s2 := c7b2; simp only [ByteArray.size_append, Go.Proofs.Ytmebogkhdbbbbaa.C.ba_lit, List.size_toArray, List.length_cons, List.length_nil, Nat.zero_add, Nat.reduceAdd] at c7s2)
       have H' := mK H
       clear H
       have p337 : 0 ≤ (x6_1 : Int) := of_decide_eq_true (by first | (with_reducible assumption) | assumption)
       have q337 : x6_1 < (l1.length : Int) := of_decide_eq_true (by first | (with_reducible assumption) | assumption)
       obtain ⟨ad337, e337, hx337_0⟩ := Kd.at_int HR1.out x6_1 p337 q337
       cases e337
       replace hx337_0 := (HB.out.cell (World.block_lt_of_cell? w _ hx337_0)).trans hx337_0
       replace p337 := eq_true p337
       replace q337 := eq_true q337
       go_wp2_with (first | ((with_reducible refine gate_callee (f := 35) rfl ?_); refine goesL_ (some 23) rfl rfl Try.func35 (by kernel_rfl) rfl #[.int .u32 ((a0 + ((4 * ((x6_1) % 4294967296)) % 4294967296)) % 4294967296), .int .u32 (rd l1 x6_1)] rfl (by (try simp only [List.map_toArray, List.map_cons, List.map_nil]); first | done | rfl) ?_; (with_reducible refine (pascalineref06_Line.calls k1 ((a0 + ((4 * ((x6_1) % 4294967296)) % 4294967296)) % 4294967296) (rd l1 x6_1) t338 _ A5.out).mono ?_); rintro e w8 ⟨rfl, hb⟩; refine ⟨_, rfl, ?_⟩; have n0_ := mK (bP (by repeat (first | (with_reducible first | exact HB.out | apply bA | apply bN | apply bD) | exact HB.out)) hb); clear HB; have HB := n0_; clear n0_; (try clear hb)))
       go_roundg k1
       case measure => have := HK1.out; omega
       case rel => exact ⟨((x5_1 ++ t338) ++ (⟨#[10]⟩ : ByteArray)), (wrap64 (x6_1 + 1)), (by first | rfl | (simp; done) | (simp [*]; done)), (by first | rfl | (simp; done) | (simp [*]; done)), H', ⟨by have := HK1.out; omega⟩, ⟨by repeat (first | (with_reducible first | exact HB.out | apply bA | apply bN | apply bD) | exact HB.out)⟩⟩
      ·
       rw [if_neg c7] at H
       exact absurd H (by simp)
     ·
      rw [if_neg c6] at H
      exact absurd H (by simp)
    ·
     rw [if_neg c4] at H
     exact absurd H (by simp)
   ·
    rw [if_neg c3] at H
    have c3b0 : decide (x6_1 < (l1.length : Int)) = false := decide_eq_false c3
    clear c3
    obtain rfl := Option.some.inj H
    go_wp2
    go_ret
    exact ⟨by first | rfl | (simp [errW_none, errW_some] <;> rfl) | (simp [*, errW_none, errW_some] <;> rfl), by repeat (first | (with_reducible first | exact HB.out | apply bA | apply bN | apply bD) | exact HB.out)⟩


/-! ### pascalinelaw31_ReportLists: function 5 -/
mutual
def pascalinelaw31_ReportLists.j0 : Nat → ByteArray → Bool → Int → Int → Int → Int → Int → List Int → List Int → Int → Int → Int → Int → List (S49) → Option (Bool)
 | 0, _, _, _, _, _, _, _, _, _, _, _, _, _, _ => none
 | k + 1, x1, x20, x340000, x340001, x340002, x340003, x340004, x340005, x340006, x340007, x340008, x340009, x340010, x340011 => if x20 = true then (some true) else ((report_Listing.f k x340000 x340001 x340002 x340003 x340004 x340005 x340006 x340007 x340008 x340009 x340010 x340011 ([] : List (S46)) ([] : List Int) ([] : List Int) x1).bind fun bt341 => (pascalinelaw31_ReportLists.l0 k x1 bt341.1 bt341.2 0 x340000 x340001 x340002 x340003 x340004 x340005 x340006 x340007 x340008 x340009 x340010 x340011))
def pascalinelaw31_ReportLists.l0 : Nat → ByteArray → ByteArray → Int → Int → Int → Int → Int → Int → Int → List Int → List Int → Int → Int → Int → Int → List (S49) → Option (Bool)
 | 0, _, _, _, _, _, _, _, _, _, _, _, _, _, _, _, _ => none
 | k + 1, x1, x5, x6, x7, x340000, x340001, x340002, x340003, x340004, x340005, x340006, x340007, x340008, x340009, x340010, x340011 => if x7 < (x340011.length : Int) then (if 0 ≤ x7 then (if ((rd_T49 x340011 x7).f0).toList = x1.toList then (if ((rd_T49 x340011 x7).f1) ≥ 0 then (if ((rd_T49 x340011 x7).f2) ≥ 0 then (if ((rd_T49 x340011 x7).f1) ≤ (x340005.length : Int) then (if ((rd_T49 x340011 x7).f2) ≤ (wrap64 ((x340005.length : Int) - ((rd_T49 x340011 x7).f1))) then (if x6 = 0 then (if 0 ≤ ((rd_T49 x340011 x7).f1) then (if ((rd_T49 x340011 x7).f1) ≤ (wrap64 (((rd_T49 x340011 x7).f1) + ((rd_T49 x340011 x7).f2))) then (if (wrap64 (((rd_T49 x340011 x7).f1) + ((rd_T49 x340011 x7).f2))) ≤ (x340005.length : Int) then ((pascalineref06_Print.f k ((wrap64 (4 * ((rd_T49 x340011 x7).f1))) % 4294967296) ((x340005.take ((wrap64 (((rd_T49 x340011 x7).f1) + ((rd_T49 x340011 x7).f2))) : Int).toNat).drop (((rd_T49 x340011 x7).f1) : Int).toNat)).bind fun t346 => (some (x5.toList == t346.toList))) else (none)) else (none)) else (none)) else (some false)) else (pascalinelaw31_ReportLists.l0 k x1 x5 x6 (wrap64 (x7 + 1)) x340000 x340001 x340002 x340003 x340004 x340005 x340006 x340007 x340008 x340009 x340010 x340011)) else (pascalinelaw31_ReportLists.l0 k x1 x5 x6 (wrap64 (x7 + 1)) x340000 x340001 x340002 x340003 x340004 x340005 x340006 x340007 x340008 x340009 x340010 x340011)) else (pascalinelaw31_ReportLists.l0 k x1 x5 x6 (wrap64 (x7 + 1)) x340000 x340001 x340002 x340003 x340004 x340005 x340006 x340007 x340008 x340009 x340010 x340011)) else (pascalinelaw31_ReportLists.l0 k x1 x5 x6 (wrap64 (x7 + 1)) x340000 x340001 x340002 x340003 x340004 x340005 x340006 x340007 x340008 x340009 x340010 x340011)) else (pascalinelaw31_ReportLists.l0 k x1 x5 x6 (wrap64 (x7 + 1)) x340000 x340001 x340002 x340003 x340004 x340005 x340006 x340007 x340008 x340009 x340010 x340011)) else (none)) else (if x6 = 144 then (some (x5.toList == ([] : List UInt8))) else (some false))
end
def pascalinelaw31_ReportLists.f (k : Nat) (a0_0 : Int) (a0_1 : Int) (a0_2 : Int) (a0_3 : Int) (a0_4 : Int) (l0_5 : List Int) (l0_6 : List Int) (a0_7 : Int) (a0_8 : Int) (a0_9 : Int) (a0_10 : Int) (l0_11 : List (S49)) (a1 : ByteArray) : Option (Bool) := (pascalinelaw31_awake.f k).bind fun t340 => (if t340 = true then (if (l0_5.length : Int) > 300 then (pascalinelaw31_ReportLists.j0 k a1 true a0_0 a0_1 a0_2 a0_3 a0_4 l0_5 l0_6 a0_7 a0_8 a0_9 a0_10 l0_11) else (pascalinelaw31_ReportLists.j0 k a1 (decide ((l0_11.length : Int) > 80)) a0_0 a0_1 a0_2 a0_3 a0_4 l0_5 l0_6 a0_7 a0_8 a0_9 a0_10 l0_11)) else (some false))
theorem pascalinelaw31_ReportLists.mono_l : ∀ k, (∀ y0 y1 y2 y3 y4 y5 y6 y7 y8 y9 y10 y11 y12 y13, LeO (pascalinelaw31_ReportLists.j0 k y0 y1 y2 y3 y4 y5 y6 y7 y8 y9 y10 y11 y12 y13) (pascalinelaw31_ReportLists.j0 (k + 1) y0 y1 y2 y3 y4 y5 y6 y7 y8 y9 y10 y11 y12 y13)) ∧ (∀ y0 y1 y2 y3 y4 y5 y6 y7 y8 y9 y10 y11 y12 y13 y14 y15, LeO (pascalinelaw31_ReportLists.l0 k y0 y1 y2 y3 y4 y5 y6 y7 y8 y9 y10 y11 y12 y13 y14 y15) (pascalinelaw31_ReportLists.l0 (k + 1) y0 y1 y2 y3 y4 y5 y6 y7 y8 y9 y10 y11 y12 y13 y14 y15))
 | 0 => ⟨fun _ _ _ _ _ _ _ _ _ _ _ _ _ _ r h => by simp [pascalinelaw31_ReportLists.j0] at h, fun _ _ _ _ _ _ _ _ _ _ _ _ _ _ _ _ r h => by simp [pascalinelaw31_ReportLists.l0] at h⟩
 | k + 1 => by
  obtain ⟨ih0, ih1⟩ := pascalinelaw31_ReportLists.mono_l k
  refine ⟨?_, ?_⟩
  ·
   intro y0 y1 y2 y3 y4 y5 y6 y7 y8 y9 y10 y11 y12 y13
   unfold pascalinelaw31_ReportLists.j0
   repeat' first
   | (with_reducible exact ih0 _ _ _ _ _ _ _ _ _ _ _ _ _ _)
   | (with_reducible exact ih1 _ _ _ _ _ _ _ _ _ _ _ _ _ _ _ _)
   | (with_reducible exact pascalinelaw31_awake.mono _)
   | (with_reducible exact pascalineref06_Print.mono _ _ _)
   | (with_reducible exact report_Listing.mono _ _ _ _ _ _ _ _ _ _ _ _ _ _ _ _ _)
   | (with_reducible exact LeO.refl _)
   | (with_reducible exact LeO.none _)
   | (with_reducible refine LeO.ite ?_ ?_)
   | (with_reducible refine LeO.bind ?_ (fun _ => ?_))
   | exact LeO.none _
   | refine LeO.ite ?_ ?_
   | refine LeO.bind ?_ (fun _ => ?_)
  ·
   intro y0 y1 y2 y3 y4 y5 y6 y7 y8 y9 y10 y11 y12 y13 y14 y15
   unfold pascalinelaw31_ReportLists.l0
   repeat' first
   | (with_reducible exact ih0 _ _ _ _ _ _ _ _ _ _ _ _ _ _)
   | (with_reducible exact ih1 _ _ _ _ _ _ _ _ _ _ _ _ _ _ _ _)
   | (with_reducible exact pascalinelaw31_awake.mono _)
   | (with_reducible exact pascalineref06_Print.mono _ _ _)
   | (with_reducible exact report_Listing.mono _ _ _ _ _ _ _ _ _ _ _ _ _ _ _ _ _)
   | (with_reducible exact LeO.refl _)
   | (with_reducible exact LeO.none _)
   | (with_reducible refine LeO.ite ?_ ?_)
   | (with_reducible refine LeO.bind ?_ (fun _ => ?_))
   | exact LeO.none _
   | refine LeO.ite ?_ ?_
   | refine LeO.bind ?_ (fun _ => ?_)
theorem pascalinelaw31_ReportLists.mono : ∀ a0 a1 a2 a3 a4 a5 a6 a7 a8 a9 a10 a11 a12 k, LeO (pascalinelaw31_ReportLists.f k a0 a1 a2 a3 a4 a5 a6 a7 a8 a9 a10 a11 a12) (pascalinelaw31_ReportLists.f (k + 1) a0 a1 a2 a3 a4 a5 a6 a7 a8 a9 a10 a11 a12) := by
 intro a0 a1 a2 a3 a4 a5 a6 a7 a8 a9 a10 a11 a12 k
 obtain ⟨ih0, ih1⟩ := pascalinelaw31_ReportLists.mono_l k
 unfold pascalinelaw31_ReportLists.f
 repeat' first
  | (with_reducible exact ih0 _ _ _ _ _ _ _ _ _ _ _ _ _ _)
  | (with_reducible exact ih1 _ _ _ _ _ _ _ _ _ _ _ _ _ _ _ _)
  | (with_reducible exact pascalinelaw31_awake.mono _)
  | (with_reducible exact pascalineref06_Print.mono _ _ _)
  | (with_reducible exact report_Listing.mono _ _ _ _ _ _ _ _ _ _ _ _ _ _ _ _ _)
  | (with_reducible exact LeO.refl _)
  | (with_reducible exact LeO.none _)
  | (with_reducible refine LeO.ite ?_ ?_)
  | (with_reducible refine LeO.bind ?_ (fun _ => ?_))
  | exact LeO.none _
  | refine LeO.ite ?_ ?_
  | refine LeO.bind ?_ (fun _ => ?_)
def pascalinelaw31_ReportLists.T11 : Bool × List (List Nat × List Nat) := (true, [([], []), ([0], [0]), ([1], [1]), ([2], [2]), ([2], [2]), ([4, 2], [2, 4]), ([5, 2], [2, 5]), ([6, 2], [2, 6]), ([2], [2]), ([8, 2], [2, 8]), ([2], [2]), ([10, 2], [2, 10]), ([2], [2]), ([12, 2], [2, 12]), ([2], [2]), ([14, 2], [2, 14]), ([13, 15, 2], [2, 13, 15]), ([9, 11, 16, 2], [2, 9, 11, 16]), ([7, 17, 2, 2], [2, 7, 17]), ([3, 18, 2], [2, 3, 18]), ([2, 19], [2, 19]), ([20, 18, 0, 1, 2, 3, 4, 5, 6, 7, 8, 9, 10, 11, 12, 13, 14, 15, 16, 17, 18, 19, 20], [20])])
def pascalinelaw31_ReportLists.B11 : List Nat := [0, 1, 3, 7, 7, 23, 55, 119, 7, 263, 7, 1031, 7, 4103, 7, 16391, 61447, 130823, 262135, 524287, 1048575, 2097151]
theorem pascalinelaw31_ReportLists.tab11 : rtab .any (opsOf Try.f5 11) = pascalinelaw31_ReportLists.T11 := by kernel_rfl
theorem pascalinelaw31_ReportLists.bits11 : waitsOk pascalinelaw31_ReportLists.T11.2 pascalinelaw31_ReportLists.B11 = true := by kernel_rfl
set_option maxHeartbeats 8000000 in
set_option maxRecDepth 100000 in
theorem pascalinelaw31_ReportLists.calls (k : Nat) (a0_0 : Int) (a0_1 : Int) (a0_2 : Int) (a0_3 : Int) (a0_4 : Int) (A0_5 : Option Addr) (c0_5 : Nat) (l0_5 : List Int) (A0_6 : Option Addr) (c0_6 : Nat) (l0_6 : List Int) (a0_7 : Int) (a0_8 : Int) (a0_9 : Int) (a0_10 : Int) (A0_11 : Option Addr) (c0_11 : Nat) (l0_11 : List (S49)) (a1 : ByteArray) (r : Bool) (w : World) (hr0_5 : Kd.C (Kd.int .u32) w A0_5 l0_5.length l0_5) (hc0_5 : l0_5.length ≤ c0_5) (hr0_6 : Kd.C (Kd.int .u32) w A0_6 l0_6.length l0_6) (hc0_6 : l0_6.length ≤ c0_6) (hr0_11 : Kd.C k49 w A0_11 l0_11.length l0_11) (hc0_11 : l0_11.length ≤ c0_11) (h : pascalinelaw31_ReportLists.f k a0_0 a0_1 a0_2 a0_3 a0_4 l0_5 l0_6 a0_7 a0_8 a0_9 a0_10 l0_11 a1 = some r) :
 Calls Try.prog 5 #[.agg #[.int .u32 a0_0, .int .u32 a0_1, .int .u32 a0_2, .int .u32 a0_3, .int .u32 a0_4, .slice A0_5 l0_5.length c0_5, .slice A0_6 l0_6.length c0_6, .int .u32 a0_7, .int .u32 a0_8, .int .u32 a0_9, .int .u32 a0_10, .slice A0_11 l0_11.length c0_11], .string a1] w fun e w' => e = .returned (.bool r) ∧ Below w.heap.size w w' := by
 have hu40 := Try.underlying40
 have hu51 := Try.underlying51
 have hu49 := Try.underlying49
 have HR0_5 := mK hr0_5
 have HC0_5 := mK hc0_5
 clear hr0_5 hc0_5
 have HR0_6 := mK hr0_6
 have HC0_6 := mK hc0_6
 clear hr0_6 hc0_6
 have HR0_11 := mK hr0_11
 have HC0_11 := mK hc0_11
 clear hr0_11 hc0_11
 have HB := mK (Below.refl w.heap.size w)
 have H : ((pascalinelaw31_awake.f k).bind fun t340 => (if t340 = true then (if (l0_5.length : Int) > 300 then (pascalinelaw31_ReportLists.j0 k a1 true a0_0 a0_1 a0_2 a0_3 a0_4 l0_5 l0_6 a0_7 a0_8 a0_9 a0_10 l0_11) else (pascalinelaw31_ReportLists.j0 k a1 (decide ((l0_11.length : Int) > 80)) a0_0 a0_1 a0_2 a0_3 a0_4 l0_5 l0_6 a0_7 a0_8 a0_9 a0_10 l0_11)) else (some false))) = some r := h
 clear h
 replace H := oB H
 obtain ⟨t340, A30, H⟩ := H
 replace H : (if t340 = true then (if (l0_5.length : Int) > 300 then (pascalinelaw31_ReportLists.j0 k a1 true a0_0 a0_1 a0_2 a0_3 a0_4 l0_5 l0_6 a0_7 a0_8 a0_9 a0_10 l0_11) else (pascalinelaw31_ReportLists.j0 k a1 (decide ((l0_11.length : Int) > 80)) a0_0 a0_1 a0_2 a0_3 a0_4 l0_5 l0_6 a0_7 a0_8 a0_9 a0_10 l0_11)) else (some false)) = some r := H
 have A3 := mK A30
 clear A30
 by_cases c4 : t340 = true
 ·
  subst c4
  have H1 : (if (l0_5.length : Int) > 300 then (pascalinelaw31_ReportLists.j0 k a1 true a0_0 a0_1 a0_2 a0_3 a0_4 l0_5 l0_6 a0_7 a0_8 a0_9 a0_10 l0_11) else (pascalinelaw31_ReportLists.j0 k a1 (decide ((l0_11.length : Int) > 80)) a0_0 a0_1 a0_2 a0_3 a0_4 l0_5 l0_6 a0_7 a0_8 a0_9 a0_10 l0_11)) = some r := by rw [if_pos rfl] at H; exact H
  clear H
  have H := H1
  clear H1
  have HC5 := mK H
  clear H
  go_enter Try.func5, Try.ntmps5
  go_upto_region 3 with (first | ((with_reducible refine gate_dst (N := 2) rfl ?_); (try (refine gate_guard (by rfl) ?_; dsimp only)); refine box_event ?hg (N := 2) ?hd (cs := #[.int .u32 a0_0, .int .u32 a0_1, .int .u32 a0_2, .int .u32 a0_3, .int .u32 a0_4, .slice A0_5 l0_5.length c0_5, .slice A0_6 l0_6.length c0_6, .int .u32 a0_7, .int .u32 a0_8, .int .u32 a0_9, .int .u32 a0_10, .slice A0_11 l0_11.length c0_11]) (t := 40) ?hr ?_; (case hd => rfl); (case hg => rfl); (case hr => first | (go_simp; done) | (go_simp; rfl)); intro gb339 hg w6 hbox hb; have n0_ := mK (bP (by repeat (first | (with_reducible first | exact HB.out | apply bA | apply bN | apply bD) | exact HB.out)) hb); have n1_ := mK (hbox); have n2_ := mK ((by rw [hg]; exact (bZ (by repeat (first | (with_reducible first | exact HB.out | apply bA | apply bN | apply bD) | exact HB.out))) : w.heap.size ≤ gb339)); have n3_ := mK ((by rw [hg]; exact (bZ (by repeat (first | (with_reducible first | exact HB.out | apply bA | apply bN | apply bD) | exact HB.out))) : w.heap.size ≤ gb339)); clear HB; have HB := n0_; have BK339 := n1_; have GW339 := n2_; have GE339 := n3_; clear n0_ n1_ n2_ n3_; clear hb hbox hg) | ((with_reducible refine gate_callee (f := 6) rfl ?_); refine goesL_ (some 9) rfl rfl Try.func6 (by kernel_rfl) rfl #[] rfl (by (try simp only [List.map_toArray, List.map_cons, List.map_nil]); first | done | rfl) ?_; (with_reducible refine (pascalinelaw31_awake.calls k  true _ A3.out).mono ?_); rintro e w7 ⟨rfl, hb⟩; refine ⟨_, rfl, ?_⟩; have n0_ := mK (kB (g := gb339) (o := .cells #[.int .u32 a0_0, .int .u32 a0_1, .int .u32 a0_2, .int .u32 a0_3, .int .u32 a0_4, .slice A0_5 l0_5.length c0_5, .slice A0_6 l0_6.length c0_6, .int .u32 a0_7, .int .u32 a0_8, .int .u32 a0_9, .int .u32 a0_10, .slice A0_11 l0_11.length c0_11] 40 (0, 0)) (by (with_reducible repeat (first | refine kN ?_ _ | refine kD ?_ | refine kA ?_ _)); exact BK339.out) hb); have n1_ := mK (bP (by repeat (first | (with_reducible first | exact HB.out | apply bA | apply bN | apply bD | refine bS ?_ GE339.out) | exact HB.out)) hb); clear BK339; clear HB; have BK339 := n0_; have HB := n1_; clear n0_ n1_; (try clear hb)))
  (try simp only [Act.put, List.setIfInBounds_toArray, List.set_cons_zero, List.set_cons_succ])
  go_cut [20] (fun v20 wc => ∃ (kq : Nat) (x20_4 : Bool), v20 = .bool x20_4 ∧ Aside0 (pascalinelaw31_ReportLists.j0 kq a1 x20_4 a0_0 a0_1 a0_2 a0_3 a0_4 l0_5 l0_6 a0_7 a0_8 a0_9 a0_10 l0_11 = some r) ∧ Aside0 (kq ≤ k) ∧ Aside0 (wc.heap[gb339]? = some (.cells #[.int .u32 a0_0, .int .u32 a0_1, .int .u32 a0_2, .int .u32 a0_3, .int .u32 a0_4, (.slice A0_5 l0_5.length c0_5), (.slice A0_6 l0_6.length c0_6), .int .u32 a0_7, .int .u32 a0_8, .int .u32 a0_9, .int .u32 a0_10, (.slice A0_11 l0_11.length c0_11)] 40 (0, 0))) ∧ Aside0 (Below w.heap.size w wc))
  case first =>
   have H := HC5.out
   clear HC5
   by_cases c8 : (l0_5.length : Int) > 300
   ·
    rw [if_pos c8] at H
    have c8b0 : decide (300 < (l0_5.length : Int)) = true := decide_eq_true c8
    have c8b1 : decide (300 < l0_5.length) = true := decide_eq_true (by omega)
    clear c8
    (first | rw [c8b0] | (simp only [i64_w, i32_w]; rw [c8b0]) | skip)
    have H' := mK H
    clear H
    have hcz9_0 : w7.cell? ⟨gb339, 0, none⟩ = some (.int .u32 a0_0) := (kC BK339.out 0).trans rfl
    have hcz9_1 : w7.cell? ⟨gb339, 1, none⟩ = some (.int .u32 a0_1) := (kC BK339.out 1).trans rfl
    have hcz9_2 : w7.cell? ⟨gb339, 2, none⟩ = some (.int .u32 a0_2) := (kC BK339.out 2).trans rfl
    have hcz9_3 : w7.cell? ⟨gb339, 3, none⟩ = some (.int .u32 a0_3) := (kC BK339.out 3).trans rfl
    have hcz9_4 : w7.cell? ⟨gb339, 4, none⟩ = some (.int .u32 a0_4) := (kC BK339.out 4).trans rfl
    have hcz9_5 : w7.cell? ⟨gb339, 5, none⟩ = some (.slice A0_5 l0_5.length c0_5) := (kC BK339.out 5).trans rfl
    have hcz9_6 : w7.cell? ⟨gb339, 6, none⟩ = some (.slice A0_6 l0_6.length c0_6) := (kC BK339.out 6).trans rfl
    have hcz9_7 : w7.cell? ⟨gb339, 7, none⟩ = some (.int .u32 a0_7) := (kC BK339.out 7).trans rfl
    have hcz9_8 : w7.cell? ⟨gb339, 8, none⟩ = some (.int .u32 a0_8) := (kC BK339.out 8).trans rfl
    have hcz9_9 : w7.cell? ⟨gb339, 9, none⟩ = some (.int .u32 a0_9) := (kC BK339.out 9).trans rfl
    have hcz9_10 : w7.cell? ⟨gb339, 10, none⟩ = some (.int .u32 a0_10) := (kC BK339.out 10).trans rfl
    have hcz9_11 : w7.cell? ⟨gb339, 11, none⟩ = some (.slice A0_11 l0_11.length c0_11) := (kC BK339.out 11).trans rfl
    have hfz9_0 := kF BK339.out 0
    have hfz9_1 := kF BK339.out 1
    have hfz9_2 := kF BK339.out 2
    have hfz9_3 := kF BK339.out 3
    have hfz9_4 := kF BK339.out 4
    have hfz9_5 := kF BK339.out 5
    have hfz9_6 := kF BK339.out 6
    have hfz9_7 := kF BK339.out 7
    have hfz9_8 := kF BK339.out 8
    have hfz9_9 := kF BK339.out 9
    have hfz9_10 := kF BK339.out 10
    have hfz9_11 := kF BK339.out 11
    go_wp2
    go_meet
    case rel => exact ⟨_, (true), (by first | rfl | (simp; done) | (simp [*]; done)), H', ⟨by first | omega | exact Nat.le_refl _⟩, ⟨by (with_reducible repeat (first | refine kN ?_ _ | refine kD ?_ | refine kA ?_ _)); exact BK339.out⟩, ⟨by repeat (first | (with_reducible first | exact HB.out | apply bA | apply bN | apply bD | refine bS ?_ GE339.out) | exact HB.out)⟩⟩
   ·
    rw [if_neg c8] at H
    have c8b0 : decide (300 < (l0_5.length : Int)) = false := decide_eq_false c8
    have c8b1 : decide (300 < l0_5.length) = false := decide_eq_false (by omega)
    clear c8
    (first | rw [c8b0] | (simp only [i64_w, i32_w]; rw [c8b0]) | skip)
    have H' := mK H
    clear H
    have hcz10_0 : w7.cell? ⟨gb339, 0, none⟩ = some (.int .u32 a0_0) := (kC BK339.out 0).trans rfl
    have hcz10_1 : w7.cell? ⟨gb339, 1, none⟩ = some (.int .u32 a0_1) := (kC BK339.out 1).trans rfl
    have hcz10_2 : w7.cell? ⟨gb339, 2, none⟩ = some (.int .u32 a0_2) := (kC BK339.out 2).trans rfl
    have hcz10_3 : w7.cell? ⟨gb339, 3, none⟩ = some (.int .u32 a0_3) := (kC BK339.out 3).trans rfl
    have hcz10_4 : w7.cell? ⟨gb339, 4, none⟩ = some (.int .u32 a0_4) := (kC BK339.out 4).trans rfl
    have hcz10_5 : w7.cell? ⟨gb339, 5, none⟩ = some (.slice A0_5 l0_5.length c0_5) := (kC BK339.out 5).trans rfl
    have hcz10_6 : w7.cell? ⟨gb339, 6, none⟩ = some (.slice A0_6 l0_6.length c0_6) := (kC BK339.out 6).trans rfl
    have hcz10_7 : w7.cell? ⟨gb339, 7, none⟩ = some (.int .u32 a0_7) := (kC BK339.out 7).trans rfl
    have hcz10_8 : w7.cell? ⟨gb339, 8, none⟩ = some (.int .u32 a0_8) := (kC BK339.out 8).trans rfl
    have hcz10_9 : w7.cell? ⟨gb339, 9, none⟩ = some (.int .u32 a0_9) := (kC BK339.out 9).trans rfl
    have hcz10_10 : w7.cell? ⟨gb339, 10, none⟩ = some (.int .u32 a0_10) := (kC BK339.out 10).trans rfl
    have hcz10_11 : w7.cell? ⟨gb339, 11, none⟩ = some (.slice A0_11 l0_11.length c0_11) := (kC BK339.out 11).trans rfl
    have hfz10_0 := kF BK339.out 0
    have hfz10_1 := kF BK339.out 1
    have hfz10_2 := kF BK339.out 2
    have hfz10_3 := kF BK339.out 3
    have hfz10_4 := kF BK339.out 4
    have hfz10_5 := kF BK339.out 5
    have hfz10_6 := kF BK339.out 6
    have hfz10_7 := kF BK339.out 7
    have hfz10_8 := kF BK339.out 8
    have hfz10_9 := kF BK339.out 9
    have hfz10_10 := kF BK339.out 10
    have hfz10_11 := kF BK339.out 11
    go_wp2
    go_meet
    case rel => exact ⟨_, (decide ((l0_11.length : Int) > 80)), (by first | rfl | (simp; done) | (simp [*]; done)), H', ⟨by first | omega | exact Nat.le_refl _⟩, ⟨by (with_reducible repeat (first | refine kN ?_ _ | refine kD ?_ | refine kA ?_ _)); exact BK339.out⟩, ⟨by repeat (first | (with_reducible first | exact HB.out | apply bA | apply bN | apply bD | refine bS ?_ GE339.out) | exact HB.out)⟩⟩
  case rest =>
   clear HC5
   (try clear c4)
   obtain ⟨kq, x20_4, rfl, HA, HJ4, BK339, HB⟩ := hcut
   cases kq with
   | zero => exact absurd HA.out (by simp [pascalinelaw31_ReportLists.j0])
   | succ kj4 =>
    have H := HA.out
    clear HA
    simp only [pascalinelaw31_ReportLists.j0] at H
    by_cases c11 : x20_4 = true
    ·
     subst c11
     have H1 : (some true) = some r := by rw [if_pos rfl] at H; exact H
     clear H
     have H := H1
     clear H1
     obtain rfl := Option.some.inj H
     go_wp2
     go_ret
     exact ⟨by first | rfl | (simp [errW_none, errW_some] <;> rfl) | (simp [*, errW_none, errW_some] <;> rfl), by repeat (first | (with_reducible first | exact HB.out | apply bA | apply bN | apply bD | refine bS ?_ GE339.out) | exact HB.out)⟩
    ·
     replace c11 := Bool.eq_false_iff.mpr c11
     subst c11
     have H1 : ((report_Listing.f kj4 a0_0 a0_1 a0_2 a0_3 a0_4 l0_5 l0_6 a0_7 a0_8 a0_9 a0_10 l0_11 ([] : List (S46)) ([] : List Int) ([] : List Int) a1).bind fun bt341 => (pascalinelaw31_ReportLists.l0 kj4 a1 bt341.1 bt341.2 0 a0_0 a0_1 a0_2 a0_3 a0_4 l0_5 l0_6 a0_7 a0_8 a0_9 a0_10 l0_11)) = some r := by rw [if_neg (show ¬ (false = true) by decide)] at H; exact H
     clear H
     have H := H1
     clear H1
     replace H := oB H
     obtain ⟨⟨t341, t342⟩, A120, H⟩ := H
     replace H : (pascalinelaw31_ReportLists.l0 kj4 a1 t341 t342 0 a0_0 a0_1 a0_2 a0_3 a0_4 l0_5 l0_6 a0_7 a0_8 a0_9 a0_10 l0_11) = some r := H
     have A12 := mK A120
     clear A120
     have H' := mK H
     clear H
     have hcz13_0 : wc.cell? ⟨gb339, 0, none⟩ = some (.int .u32 a0_0) := (kC BK339.out 0).trans rfl
     have hcz13_1 : wc.cell? ⟨gb339, 1, none⟩ = some (.int .u32 a0_1) := (kC BK339.out 1).trans rfl
     have hcz13_2 : wc.cell? ⟨gb339, 2, none⟩ = some (.int .u32 a0_2) := (kC BK339.out 2).trans rfl
     have hcz13_3 : wc.cell? ⟨gb339, 3, none⟩ = some (.int .u32 a0_3) := (kC BK339.out 3).trans rfl
     have hcz13_4 : wc.cell? ⟨gb339, 4, none⟩ = some (.int .u32 a0_4) := (kC BK339.out 4).trans rfl
     have hcz13_5 : wc.cell? ⟨gb339, 5, none⟩ = some (.slice A0_5 l0_5.length c0_5) := (kC BK339.out 5).trans rfl
     have hcz13_6 : wc.cell? ⟨gb339, 6, none⟩ = some (.slice A0_6 l0_6.length c0_6) := (kC BK339.out 6).trans rfl
     have hcz13_7 : wc.cell? ⟨gb339, 7, none⟩ = some (.int .u32 a0_7) := (kC BK339.out 7).trans rfl
     have hcz13_8 : wc.cell? ⟨gb339, 8, none⟩ = some (.int .u32 a0_8) := (kC BK339.out 8).trans rfl
     have hcz13_9 : wc.cell? ⟨gb339, 9, none⟩ = some (.int .u32 a0_9) := (kC BK339.out 9).trans rfl
     have hcz13_10 : wc.cell? ⟨gb339, 10, none⟩ = some (.int .u32 a0_10) := (kC BK339.out 10).trans rfl
     have hcz13_11 : wc.cell? ⟨gb339, 11, none⟩ = some (.slice A0_11 l0_11.length c0_11) := (kC BK339.out 11).trans rfl
     have hfz13_0 := kF BK339.out 0
     have hfz13_1 := kF BK339.out 1
     have hfz13_2 := kF BK339.out 2
     have hfz13_3 := kF BK339.out 3
     have hfz13_4 := kF BK339.out 4
     have hfz13_5 := kF BK339.out 5
     have hfz13_6 := kF BK339.out 6
     have hfz13_7 := kF BK339.out 7
     have hfz13_8 := kF BK339.out 8
     have hfz13_9 := kF BK339.out 9
     have hfz13_10 := kF BK339.out 10
     have hfz13_11 := kF BK339.out 11
     go_wp2_with (first | ((with_reducible refine gate_callee (f := 16) rfl ?_); refine goesL_ (some 25) rfl rfl Try.func16 (by kernel_rfl) rfl #[.agg #[.int .u32 a0_0, .int .u32 a0_1, .int .u32 a0_2, .int .u32 a0_3, .int .u32 a0_4, .slice A0_5 l0_5.length c0_5, .slice A0_6 l0_6.length c0_6, .int .u32 a0_7, .int .u32 a0_8, .int .u32 a0_9, .int .u32 a0_10, .slice A0_11 l0_11.length c0_11, .slice none 0 0, .slice none 0 0, .slice none 0 0], .string a1] rfl (by (try simp only [List.map_toArray, List.map_cons, List.map_nil]); first | done | rfl) ?_; (refine (report_Listing.calls kj4 a0_0 a0_1 a0_2 a0_3 a0_4 _ _ l0_5 _ _ l0_6 a0_7 a0_8 a0_9 a0_10 _ _ l0_11 _ _ ([] : List (S46)) _ _ ([] : List Int) _ _ ([] : List Int) a1 t341 t342 _ ?side1 ?side2 ?side3 ?side4 ?side5 ?side6 ?side7 ?side8 ?side9 ?side10 ?side11 ?side12 A12.out).mono ?_); (case side1 => repeat (first | exact (Kd.C_below HR0_5.out HB.out) | (with_reducible refine Kd.C_alloc ?_ _) | (with_reducible refine Kd.C_drewN ?_ _) | (with_reducible refine Kd.C_drew ?_))); (case side2 => exact HC0_5.out); (case side3 => repeat (first | exact (Kd.C_below HR0_6.out HB.out) | (with_reducible refine Kd.C_alloc ?_ _) | (with_reducible refine Kd.C_drewN ?_ _) | (with_reducible refine Kd.C_drew ?_))); (case side4 => exact HC0_6.out); (case side5 => repeat (first | exact (Kd.C_below HR0_11.out HB.out) | (with_reducible refine Kd.C_alloc ?_ _) | (with_reducible refine Kd.C_drewN ?_ _) | (with_reducible refine Kd.C_drew ?_))); (case side6 => exact HC0_11.out); (case side7 => exact Kd.C_nil _ _); (case side8 => exact Nat.le_refl _); (case side9 => exact Kd.C_nil _ _); (case side10 => exact Nat.le_refl _); (case side11 => exact Kd.C_nil _ _); (case side12 => exact Nat.le_refl _); rintro e w14 ⟨rfl, hb⟩; refine ⟨_, rfl, ?_⟩; have n0_ := mK (kB (g := gb339) (o := .cells #[.int .u32 a0_0, .int .u32 a0_1, .int .u32 a0_2, .int .u32 a0_3, .int .u32 a0_4, .slice A0_5 l0_5.length c0_5, .slice A0_6 l0_6.length c0_6, .int .u32 a0_7, .int .u32 a0_8, .int .u32 a0_9, .int .u32 a0_10, .slice A0_11 l0_11.length c0_11] 40 (0, 0)) (by (with_reducible repeat (first | refine kN ?_ _ | refine kD ?_ | refine kA ?_ _)); exact BK339.out) hb); have n1_ := mK (bP (by repeat (first | (with_reducible first | exact HB.out | apply bA | apply bN | apply bD | refine bS ?_ GE339.out) | exact HB.out)) hb); clear BK339; clear HB; have BK339 := n0_; have HB := n1_; clear n0_ n1_; (try clear hb)))
     go_loopg [7] kj4 (fun kq v7 w' => ∃ (x7_2 : Int), v7 = .int .i64 x7_2 ∧ Aside0 (pascalinelaw31_ReportLists.l0 kq a1 t341 t342 x7_2 a0_0 a0_1 a0_2 a0_3 a0_4 l0_5 l0_6 a0_7 a0_8 a0_9 a0_10 l0_11 = some r) ∧ Aside0 (kq ≤ kj4) ∧ Aside0 (w'.heap[gb339]? = some (.cells #[.int .u32 a0_0, .int .u32 a0_1, .int .u32 a0_2, .int .u32 a0_3, .int .u32 a0_4, (.slice A0_5 l0_5.length c0_5), (.slice A0_6 l0_6.length c0_6), .int .u32 a0_7, .int .u32 a0_8, .int .u32 a0_9, .int .u32 a0_10, (.slice A0_11 l0_11.length c0_11)] 40 (0, 0))) ∧ Aside0 (Below w.heap.size w w'))
     case atStart => exact ⟨(0), (by first | rfl | (simp; done) | (simp [*]; done)), H', ⟨Nat.le_refl _⟩, ⟨by (with_reducible repeat (first | refine kN ?_ _ | refine kD ?_ | refine kA ?_ _)); exact BK339.out⟩, ⟨by repeat (first | (with_reducible first | exact HB.out | apply bA | apply bN | apply bD | refine bS ?_ GE339.out) | exact HB.out)⟩⟩
     case round =>
      clear H'
      (try clear c4); (try clear c11); (try clear hcz13_0); (try clear hcz13_1); (try clear hcz13_10); (try clear hcz13_11); (try clear hcz13_2); (try clear hcz13_3); (try clear hcz13_4); (try clear hcz13_5); (try clear hcz13_6); (try clear hcz13_7); (try clear hcz13_8); (try clear hcz13_9); (try clear hfz13_0); (try clear hfz13_1); (try clear hfz13_10); (try clear hfz13_11); (try clear hfz13_2); (try clear hfz13_3); (try clear hfz13_4); (try clear hfz13_5); (try clear hfz13_6); (try clear hfz13_7); (try clear hfz13_8); (try clear hfz13_9)
      obtain ⟨x7_2, rfl, HA, HK2, BK339, HB⟩ := hrel
      cases gk with
      | zero => exact absurd HA.out (by simp [pascalinelaw31_ReportLists.l0])
      | succ k2 =>
       have H := HA.out
       clear HA
       simp only [pascalinelaw31_ReportLists.l0] at H
       by_cases c15 : x7_2 < (l0_11.length : Int)
       ·
        rw [if_pos c15] at H
        have c15b0 : decide (x7_2 < (l0_11.length : Int)) = true := decide_eq_true c15
        clear c15
        by_cases c16 : 0 ≤ x7_2
        ·
         rw [if_pos c16] at H
         have c16b0 : decide (0 ≤ x7_2) = true := decide_eq_true c16
         clear c16
         by_cases c17 : ((rd_T49 l0_11 x7_2).f0).toList = a1.toList
         ·
          rw [if_pos c17] at H
          have c17b0 : (((rd_T49 l0_11 x7_2).f0).toList == a1.toList) = true := beq_iff_eq.mpr c17
          have c17b1 : (((rd_T49 l0_11 x7_2).f0).toList != a1.toList) = false := bR c17
          clear c17
          by_cases c18 : ((rd_T49 l0_11 x7_2).f1) ≥ 0
          ·
           rw [if_pos c18] at H
           have c18b0 : decide (0 ≤ ((rd_T49 l0_11 x7_2).f1)) = true := decide_eq_true c18
           clear c18
           by_cases c19 : ((rd_T49 l0_11 x7_2).f2) ≥ 0
           ·
            rw [if_pos c19] at H
            have c19b0 : decide (0 ≤ ((rd_T49 l0_11 x7_2).f2)) = true := decide_eq_true c19
            clear c19
            by_cases c20 : ((rd_T49 l0_11 x7_2).f1) ≤ (l0_5.length : Int)
            ·
             rw [if_pos c20] at H
             have c20b0 : decide (((rd_T49 l0_11 x7_2).f1) ≤ (l0_5.length : Int)) = true := decide_eq_true c20
             clear c20
             by_cases c21 : ((rd_T49 l0_11 x7_2).f2) ≤ (wrap64 ((l0_5.length : Int) - ((rd_T49 l0_11 x7_2).f1)))
             ·
              rw [if_pos c21] at H
              have c21b0 : decide (((rd_T49 l0_11 x7_2).f2) ≤ (wrap64 ((l0_5.length : Int) - ((rd_T49 l0_11 x7_2).f1)))) = true := decide_eq_true c21
              clear c21
              by_cases c22 : t342 = 0
              ·
               rw [if_pos c22] at H
               have c22b0 : (t342 == 0) = true := beq_iff_eq.mpr c22
               have c22b1 : (t342 != 0) = false := bR c22
               clear c22
               by_cases c23 : 0 ≤ ((rd_T49 l0_11 x7_2).f1)
               ·
                rw [if_pos c23] at H
                have c23b0 := eq_true c23
                have c23b1 : decide (0 ≤ ((rd_T49 l0_11 x7_2).f1)) = true := decide_eq_true c23
                clear c23
                by_cases c24 : ((rd_T49 l0_11 x7_2).f1) ≤ (wrap64 (((rd_T49 l0_11 x7_2).f1) + ((rd_T49 l0_11 x7_2).f2)))
                ·
                 rw [if_pos c24] at H
                 have c24b0 := eq_true c24
                 have c24b1 : decide (((rd_T49 l0_11 x7_2).f1) ≤ (wrap64 (((rd_T49 l0_11 x7_2).f1) + ((rd_T49 l0_11 x7_2).f2)))) = true := decide_eq_true c24
                 by_cases c25 : (wrap64 (((rd_T49 l0_11 x7_2).f1) + ((rd_T49 l0_11 x7_2).f2))) ≤ (l0_5.length : Int)
                 ·
                  rw [if_pos c25] at H
                  have c25b0 := eq_true c25
                  have c25b1 : decide ((wrap64 (((rd_T49 l0_11 x7_2).f1) + ((rd_T49 l0_11 x7_2).f2))) ≤ (l0_5.length : Int)) = true := decide_eq_true c25
                  replace H := oB H
                  obtain ⟨t346, A260, H⟩ := H
                  replace H : (some (t341.toList == t346.toList)) = some r := H
                  have A26 := mK A260
                  clear A260
                  obtain rfl := Option.some.inj H
                  have hcz27_0 : wr.cell? ⟨gb339, 0, none⟩ = some (.int .u32 a0_0) := (kC BK339.out 0).trans rfl
                  have hcz27_1 : wr.cell? ⟨gb339, 1, none⟩ = some (.int .u32 a0_1) := (kC BK339.out 1).trans rfl
                  have hcz27_2 : wr.cell? ⟨gb339, 2, none⟩ = some (.int .u32 a0_2) := (kC BK339.out 2).trans rfl
                  have hcz27_3 : wr.cell? ⟨gb339, 3, none⟩ = some (.int .u32 a0_3) := (kC BK339.out 3).trans rfl
                  have hcz27_4 : wr.cell? ⟨gb339, 4, none⟩ = some (.int .u32 a0_4) := (kC BK339.out 4).trans rfl
                  have hcz27_5 : wr.cell? ⟨gb339, 5, none⟩ = some (.slice A0_5 l0_5.length c0_5) := (kC BK339.out 5).trans rfl
                  have hcz27_6 : wr.cell? ⟨gb339, 6, none⟩ = some (.slice A0_6 l0_6.length c0_6) := (kC BK339.out 6).trans rfl
                  have hcz27_7 : wr.cell? ⟨gb339, 7, none⟩ = some (.int .u32 a0_7) := (kC BK339.out 7).trans rfl
                  have hcz27_8 : wr.cell? ⟨gb339, 8, none⟩ = some (.int .u32 a0_8) := (kC BK339.out 8).trans rfl
                  have hcz27_9 : wr.cell? ⟨gb339, 9, none⟩ = some (.int .u32 a0_9) := (kC BK339.out 9).trans rfl
                  have hcz27_10 : wr.cell? ⟨gb339, 10, none⟩ = some (.int .u32 a0_10) := (kC BK339.out 10).trans rfl
                  have hcz27_11 : wr.cell? ⟨gb339, 11, none⟩ = some (.slice A0_11 l0_11.length c0_11) := (kC BK339.out 11).trans rfl
                  have hfz27_0 := kF BK339.out 0
                  have hfz27_1 := kF BK339.out 1
                  have hfz27_2 := kF BK339.out 2
                  have hfz27_3 := kF BK339.out 3
                  have hfz27_4 := kF BK339.out 4
                  have hfz27_5 := kF BK339.out 5
                  have hfz27_6 := kF BK339.out 6
                  have hfz27_7 := kF BK339.out 7
                  have hfz27_8 := kF BK339.out 8
                  have hfz27_9 := kF BK339.out 9
                  have hfz27_10 := kF BK339.out 10
                  have hfz27_11 := kF BK339.out 11
                  have p343 : 0 ≤ (x7_2 : Int) := of_decide_eq_true (by first | (with_reducible assumption) | assumption)
                  have q343 : x7_2 < (l0_11.length : Int) := of_decide_eq_true (by first | (with_reducible assumption) | assumption)
                  obtain ⟨ad343, e343, hx343_0, hx343_1, hx343_2, hx343_3, hx343_4⟩ := at_T49 HR0_11.out x7_2 p343 q343
                  cases e343
                  replace hx343_0 := (HB.out.cell (World.block_lt_of_cell? w _ hx343_0)).trans hx343_0
                  replace hx343_1 := (HB.out.cell (World.block_lt_of_cell? w _ hx343_1)).trans hx343_1
                  replace hx343_2 := (HB.out.cell (World.block_lt_of_cell? w _ hx343_2)).trans hx343_2
                  replace hx343_3 := (HB.out.cell (World.block_lt_of_cell? w _ hx343_3)).trans hx343_3
                  replace hx343_4 := (HB.out.cell (World.block_lt_of_cell? w _ hx343_4)).trans hx343_4
                  replace p343 := eq_true p343
                  replace q343 := eq_true q343
                  try go_wp2_with (first | ((with_reducible refine gate_dst (N := 8) rfl ?_); (try (refine gate_guard (by rfl) ?_; dsimp only)); refine box_event ?hg (N := 8) ?hd (cs := #[.string (⟨#[]⟩ : ByteArray), .int .i64 0, .int .i64 0, .int .i64 0, .int .i64 0]) (t := 49) ?hr ?_; (case hd => rfl); (case hg => rfl); (case hr => first | (go_simp; done) | (go_simp; rfl)); intro gb344 hg w28 hbox hb; have n0_ := mK (kB (g := gb339) (o := .cells #[.int .u32 a0_0, .int .u32 a0_1, .int .u32 a0_2, .int .u32 a0_3, .int .u32 a0_4, .slice A0_5 l0_5.length c0_5, .slice A0_6 l0_6.length c0_6, .int .u32 a0_7, .int .u32 a0_8, .int .u32 a0_9, .int .u32 a0_10, .slice (some ad343) l0_11.length c0_11] 40 (0, 0)) (by (with_reducible repeat (first | refine kN ?_ _ | refine kD ?_ | refine kA ?_ _)); exact BK339.out) hb); have n1_ := mK (bP (by repeat (first | (with_reducible first | exact HB.out | apply bA | apply bN | apply bD | refine bS ?_ GE339.out) | exact HB.out)) hb); have n2_ := mK (hbox); have n3_ := mK ((by rw [hg]; exact (bZ (by repeat (first | (with_reducible first | exact HB.out | apply bA | apply bN | apply bD | refine bS ?_ GE339.out) | exact HB.out))) : w.heap.size ≤ gb344)); have n4_ := mK ((by rw [hg]; exact (bZ (by repeat (first | (with_reducible first | exact HB.out | apply bA | apply bN | apply bD | refine bS ?_ GE339.out) | exact HB.out))) : w.heap.size ≤ gb344)); have n5_ := mK ((by rw [hg]; exact Nat.ne_of_lt (blk_lt (g := gb339) (o := .cells #[.int .u32 a0_0, .int .u32 a0_1, .int .u32 a0_2, .int .u32 a0_3, .int .u32 a0_4, .slice A0_5 l0_5.length c0_5, .slice A0_6 l0_6.length c0_6, .int .u32 a0_7, .int .u32 a0_8, .int .u32 a0_9, .int .u32 a0_10, .slice (some ad343) l0_11.length c0_11] 40 (0, 0)) (by (with_reducible repeat (first | refine kN ?_ _ | refine kD ?_ | refine kA ?_ _)); exact BK339.out)) : gb339 ≠ gb344)); have n6_ := mK ((by rw [hg]; exact Nat.ne_of_gt (blk_lt (g := gb339) (o := .cells #[.int .u32 a0_0, .int .u32 a0_1, .int .u32 a0_2, .int .u32 a0_3, .int .u32 a0_4, .slice A0_5 l0_5.length c0_5, .slice A0_6 l0_6.length c0_6, .int .u32 a0_7, .int .u32 a0_8, .int .u32 a0_9, .int .u32 a0_10, .slice (some ad343) l0_11.length c0_11] 40 (0, 0)) (by (with_reducible repeat (first | refine kN ?_ _ | refine kD ?_ | refine kA ?_ _)); exact BK339.out)) : gb344 ≠ gb339)); clear BK339; clear HB; have BK339 := n0_; have HB := n1_; have BK344 := n2_; have GW344 := n3_; have GE344 := n4_; have NB339_344 := n5_; have NB344_339 := n6_; clear n0_ n1_ n2_ n3_ n4_ n5_ n6_; clear hb hbox hg; have hnb29 := NB344_339.out; have hnc29 := NB339_344.out; obtain ⟨hcz30_0, hcz30_1, hcz30_2, hcz30_3, hcz30_4, hfz30_0, hfz30_1, hfz30_2, hfz30_3, hfz30_4⟩ := cf5 BK344.out; have hcz31_0 : w28.cell? ⟨gb339, 0, none⟩ = some (.int .u32 a0_0) := (kC BK339.out 0).trans rfl; have hcz31_1 : w28.cell? ⟨gb339, 1, none⟩ = some (.int .u32 a0_1) := (kC BK339.out 1).trans rfl; have hcz31_2 : w28.cell? ⟨gb339, 2, none⟩ = some (.int .u32 a0_2) := (kC BK339.out 2).trans rfl; have hcz31_3 : w28.cell? ⟨gb339, 3, none⟩ = some (.int .u32 a0_3) := (kC BK339.out 3).trans rfl; have hcz31_4 : w28.cell? ⟨gb339, 4, none⟩ = some (.int .u32 a0_4) := (kC BK339.out 4).trans rfl; have hcz31_5 : w28.cell? ⟨gb339, 5, none⟩ = some (.slice A0_5 l0_5.length c0_5) := (kC BK339.out 5).trans rfl; have hcz31_6 : w28.cell? ⟨gb339, 6, none⟩ = some (.slice A0_6 l0_6.length c0_6) := (kC BK339.out 6).trans rfl; have hcz31_7 : w28.cell? ⟨gb339, 7, none⟩ = some (.int .u32 a0_7) := (kC BK339.out 7).trans rfl; have hcz31_8 : w28.cell? ⟨gb339, 8, none⟩ = some (.int .u32 a0_8) := (kC BK339.out 8).trans rfl; have hcz31_9 : w28.cell? ⟨gb339, 9, none⟩ = some (.int .u32 a0_9) := (kC BK339.out 9).trans rfl; have hcz31_10 : w28.cell? ⟨gb339, 10, none⟩ = some (.int .u32 a0_10) := (kC BK339.out 10).trans rfl; have hcz31_11 : w28.cell? ⟨gb339, 11, none⟩ = some (.slice (some ad343) l0_11.length c0_11) := (kC BK339.out 11).trans rfl; have hfz31_0 := kF BK339.out 0; have hfz31_1 := kF BK339.out 1; have hfz31_2 := kF BK339.out 2; have hfz31_3 := kF BK339.out 3; have hfz31_4 := kF BK339.out 4; have hfz31_5 := kF BK339.out 5; have hfz31_6 := kF BK339.out 6; have hfz31_7 := kF BK339.out 7; have hfz31_8 := kF BK339.out 8; have hfz31_9 := kF BK339.out 9; have hfz31_10 := kF BK339.out 10; have hfz31_11 := kF BK339.out 11))
                  have n0_ : Aside0 ((((((w28.setCell ⟨gb344, 0, none⟩ (.string ((rd_T49 l0_11 x7_2).f0))).setCell ⟨gb344, 1, none⟩ (.int .i64 ((rd_T49 l0_11 x7_2).f1))).setCell ⟨gb344, 2, none⟩ (.int .i64 ((rd_T49 l0_11 x7_2).f2))).setCell ⟨gb344, 3, none⟩ (.int .i64 ((rd_T49 l0_11 x7_2).f3))).setCell ⟨gb344, 4, none⟩ (.int .i64 ((rd_T49 l0_11 x7_2).f4))).heap[gb339]? = some (.cells #[.int .u32 a0_0, .int .u32 a0_1, .int .u32 a0_2, .int .u32 a0_3, .int .u32 a0_4, .slice A0_5 l0_5.length c0_5, .slice A0_6 l0_6.length c0_6, .int .u32 a0_7, .int .u32 a0_8, .int .u32 a0_9, .int .u32 a0_10, .slice (some ad343) l0_11.length c0_11] 40 (0, 0))) := ⟨by (with_reducible repeat (first | refine kN ?_ _ | refine kD ?_ | refine kA ?_ _)); refine kR ?_ NB339_344.out _; (with_reducible repeat (first | refine kN ?_ _ | refine kD ?_ | refine kA ?_ _)); refine kR ?_ NB339_344.out _; (with_reducible repeat (first | refine kN ?_ _ | refine kD ?_ | refine kA ?_ _)); refine kR ?_ NB339_344.out _; (with_reducible repeat (first | refine kN ?_ _ | refine kD ?_ | refine kA ?_ _)); refine kR ?_ NB339_344.out _; (with_reducible repeat (first | refine kN ?_ _ | refine kD ?_ | refine kA ?_ _)); refine kR ?_ NB339_344.out _; (with_reducible repeat (first | refine kN ?_ _ | refine kD ?_ | refine kA ?_ _)); exact BK339.out⟩
                  have n1_ : Aside0 ((((((w28.setCell ⟨gb344, 0, none⟩ (.string ((rd_T49 l0_11 x7_2).f0))).setCell ⟨gb344, 1, none⟩ (.int .i64 ((rd_T49 l0_11 x7_2).f1))).setCell ⟨gb344, 2, none⟩ (.int .i64 ((rd_T49 l0_11 x7_2).f2))).setCell ⟨gb344, 3, none⟩ (.int .i64 ((rd_T49 l0_11 x7_2).f3))).setCell ⟨gb344, 4, none⟩ (.int .i64 ((rd_T49 l0_11 x7_2).f4))).heap[gb344]? = some (.cells #[.string ((rd_T49 l0_11 x7_2).f0), .int .i64 ((rd_T49 l0_11 x7_2).f1), .int .i64 ((rd_T49 l0_11 x7_2).f2), .int .i64 ((rd_T49 l0_11 x7_2).f3), .int .i64 ((rd_T49 l0_11 x7_2).f4)] 49 (0, 0))) := ⟨by (with_reducible repeat (first | refine kN ?_ _ | refine kD ?_ | refine kA ?_ _)); refine kP (cs := #[.string ((rd_T49 l0_11 x7_2).f0), .int .i64 ((rd_T49 l0_11 x7_2).f1), .int .i64 ((rd_T49 l0_11 x7_2).f2), .int .i64 ((rd_T49 l0_11 x7_2).f3), .int .i64 0]) ?_ 4 _ rfl; (with_reducible repeat (first | refine kN ?_ _ | refine kD ?_ | refine kA ?_ _)); refine kP (cs := #[.string ((rd_T49 l0_11 x7_2).f0), .int .i64 ((rd_T49 l0_11 x7_2).f1), .int .i64 ((rd_T49 l0_11 x7_2).f2), .int .i64 0, .int .i64 0]) ?_ 3 _ rfl; (with_reducible repeat (first | refine kN ?_ _ | refine kD ?_ | refine kA ?_ _)); refine kP (cs := #[.string ((rd_T49 l0_11 x7_2).f0), .int .i64 ((rd_T49 l0_11 x7_2).f1), .int .i64 0, .int .i64 0, .int .i64 0]) ?_ 2 _ rfl; (with_reducible repeat (first | refine kN ?_ _ | refine kD ?_ | refine kA ?_ _)); refine kP (cs := #[.string ((rd_T49 l0_11 x7_2).f0), .int .i64 0, .int .i64 0, .int .i64 0, .int .i64 0]) ?_ 1 _ rfl; (with_reducible repeat (first | refine kN ?_ _ | refine kD ?_ | refine kA ?_ _)); refine kP (cs := #[.string (⟨#[]⟩ : ByteArray), .int .i64 0, .int .i64 0, .int .i64 0, .int .i64 0]) ?_ 0 _ rfl; (with_reducible repeat (first | refine kN ?_ _ | refine kD ?_ | refine kA ?_ _)); exact BK344.out⟩
                  have n2_ : Aside0 (Below w.heap.size w (((((w28.setCell ⟨gb344, 0, none⟩ (.string ((rd_T49 l0_11 x7_2).f0))).setCell ⟨gb344, 1, none⟩ (.int .i64 ((rd_T49 l0_11 x7_2).f1))).setCell ⟨gb344, 2, none⟩ (.int .i64 ((rd_T49 l0_11 x7_2).f2))).setCell ⟨gb344, 3, none⟩ (.int .i64 ((rd_T49 l0_11 x7_2).f3))).setCell ⟨gb344, 4, none⟩ (.int .i64 ((rd_T49 l0_11 x7_2).f4)))) := ⟨by repeat (first | (with_reducible first | exact HB.out | apply bA | apply bN | apply bD | refine bS ?_ GE339.out | refine bS ?_ GE344.out) | exact HB.out)⟩
                  (try clear BK339)
                  (try clear BK344)
                  (try clear HB)
                  generalize (((((w28.setCell ⟨gb344, 0, none⟩ (.string ((rd_T49 l0_11 x7_2).f0))).setCell ⟨gb344, 1, none⟩ (.int .i64 ((rd_T49 l0_11 x7_2).f1))).setCell ⟨gb344, 2, none⟩ (.int .i64 ((rd_T49 l0_11 x7_2).f2))).setCell ⟨gb344, 3, none⟩ (.int .i64 ((rd_T49 l0_11 x7_2).f3))).setCell ⟨gb344, 4, none⟩ (.int .i64 ((rd_T49 l0_11 x7_2).f4))) = w32 at n0_ n1_ n2_ ⊢
                  have BK339 := n0_
                  have BK344 := n1_
                  have HB := n2_
                  clear n0_ n1_ n2_
                  have n0_ := mK (kD BK339.out)
                  have n1_ := mK (kD BK344.out)
                  have n2_ := mK (bD HB.out)
                  clear BK339
                  clear BK344
                  clear HB
                  have BK339 := n0_
                  have BK344 := n1_
                  have HB := n2_
                  clear n0_ n1_ n2_
                  obtain ⟨i034, hi034, _, hsz34, _⟩ := info_parts info32
                  obtain ⟨A34, hcut34, hA34, hC34⟩ := print_mid_of (P := Try.prog) (Value.int .u32) 0 35 32 .i64 .i64 Try.underlying35 hi034 hsz34 A0_5 c0_5 l0_5 ((rd_T49 l0_11 x7_2).f1) (wrap64 (((rd_T49 l0_11 x7_2).f1) + ((rd_T49 l0_11 x7_2).f2))) (of_decide_eq_true (by first | (with_reducible assumption) | assumption)) (by first | omega | exact of_decide_eq_true (by first | (with_reducible assumption) | assumption)) (of_decide_eq_true (by first | (with_reducible assumption) | assumption)) HC0_5.out
                  have HR345 := mK (Kd.C_of_reads (h1 := fun _ => rfl) (hA34 _ (Kd.reads_of_C HR0_5.out)))
                  have HC345 := mK hC34
                  clear hA34 hC34 hi034 hsz34
                  refine start_ (n := 22) (S := fun w' => w'.cell? ⟨gb344, 0, none⟩ = some (.string ((rd_T49 l0_11 x7_2).f0)) ∧ w'.cell? ⟨gb344, 1, none⟩ = some (.int .i64 ((rd_T49 l0_11 x7_2).f1)) ∧ w'.cell? ⟨gb344, 2, none⟩ = some (.int .i64 ((rd_T49 l0_11 x7_2).f2)) ∧ w'.cell? ⟨gb344, 3, none⟩ = some (.int .i64 ((rd_T49 l0_11 x7_2).f3)) ∧ w'.cell? ⟨gb344, 4, none⟩ = some (.int .i64 ((rd_T49 l0_11 x7_2).f4)) ∧ w'.cell? ⟨gb339, 0, none⟩ = some (.int .u32 a0_0) ∧ w'.cell? ⟨gb339, 1, none⟩ = some (.int .u32 a0_1) ∧ w'.cell? ⟨gb339, 2, none⟩ = some (.int .u32 a0_2) ∧ w'.cell? ⟨gb339, 3, none⟩ = some (.int .u32 a0_3) ∧ w'.cell? ⟨gb339, 4, none⟩ = some (.int .u32 a0_4) ∧ w'.cell? ⟨gb339, 5, none⟩ = some (.slice A0_5 l0_5.length c0_5) ∧ w'.cell? ⟨gb339, 6, none⟩ = some (.slice A0_6 l0_6.length c0_6) ∧ w'.cell? ⟨gb339, 7, none⟩ = some (.int .u32 a0_7) ∧ w'.cell? ⟨gb339, 8, none⟩ = some (.int .u32 a0_8) ∧ w'.cell? ⟨gb339, 9, none⟩ = some (.int .u32 a0_9) ∧ w'.cell? ⟨gb339, 10, none⟩ = some (.int .u32 a0_10) ∧ w'.cell? ⟨gb339, 11, none⟩ = some (.slice (some ad343) l0_11.length c0_11)) (ds := []) #[false, false, false, false, false, false, false, false, false, false, false, false, false, false, false, false, false, false, false, false, false, false] (by kernel_rfl) rfl rfl ⟨(kC BK344.out 0).trans rfl, (kC BK344.out 1).trans rfl, (kC BK344.out 2).trans rfl, (kC BK344.out 3).trans rfl, (kC BK344.out 4).trans rfl, (kC BK339.out 0).trans rfl, (kC BK339.out 1).trans rfl, (kC BK339.out 2).trans rfl, (kC BK339.out 3).trans rfl, (kC BK339.out 4).trans rfl, (kC BK339.out 5).trans rfl, (kC BK339.out 6).trans rfl, (kC BK339.out 7).trans rfl, (kC BK339.out 8).trans rfl, (kC BK339.out 9).trans rfl, (kC BK339.out 10).trans rfl, (kC BK339.out 11).trans rfl⟩ (fun hHeld => ?_); refine with_tabW pascalinelaw31_ReportLists.tab11 pascalinelaw31_ReportLists.bits11 (fun HT_ HW_ => ?_)
                  generalize w32.drew = w33 at BK339 BK344 HB HR345 hHeld ⊢
                  refine pure_ (i := 0) (N := some 73) (v := ?_) (a' := ?_) #[true, false, false, false, false, false, false, false, false, false, false, false, false, false, false, false, false, false, false, false, false, false] rfl rfl (any_of HT_.out (by kernel_rfl)) (fun _ _ _ h => h) (Or.inl ⟨by rfl, ?_⟩) ?_ ?_
                  rotate_left
                  ·
                   intro w'
                   go_simp
                   with_reducible rfl
                  rotate_left
                  ·
                   simp only [Act.put, List.setIfInBounds_toArray, List.set_cons_zero, List.set_cons_succ, i64_w, i32_w]
                   rfl
                  refine pure_ (i := 1) (N := some 74) (v := ?_) (a' := ?_) #[true, true, false, false, false, false, false, false, false, false, false, false, false, false, false, false, false, false, false, false, false, false] rfl rfl (any_of HT_.out (by kernel_rfl)) (fun _ _ _ h => h) (Or.inl ⟨by rfl, ?_⟩) ?_ ?_
                  rotate_left
                  ·
                   intro w'
                   go_simp
                   with_reducible rfl
                  rotate_left
                  ·
                   simp only [Act.put, List.setIfInBounds_toArray, List.set_cons_zero, List.set_cons_succ, i64_w, i32_w]
                   rfl
                  refine pure_ (i := 2) (N := some 75) (v := ?_) (a' := ?_) #[true, true, true, false, false, false, false, false, false, false, false, false, false, false, false, false, false, false, false, false, false, false] rfl rfl (any_of HT_.out (by kernel_rfl)) (fun _ _ _ h => h) (Or.inl ⟨by rfl, ?_⟩) ?_ ?_
                  rotate_left
                  ·
                   intro w'
                   go_simp
                   with_reducible rfl
                  rotate_left
                  ·
                   simp only [Act.put, List.setIfInBounds_toArray, List.set_cons_zero, List.set_cons_succ, i64_w, i32_w]
                   rfl
                  refine pure_ (i := 3) (N := some 76) (v := ?_) (a' := ?_) #[true, true, true, true, false, false, false, false, false, false, false, false, false, false, false, false, false, false, false, false, false, false] rfl rfl (any_of HT_.out (by kernel_rfl)) (fun _ _ _ h => h) (Or.inl ⟨by rfl, ?_⟩) ?_ ?_
                  rotate_left
                  ·
                   intro w'
                   go_simp
                   with_reducible rfl
                  rotate_left
                  ·
                   simp only [Act.put, List.setIfInBounds_toArray, List.set_cons_zero, List.set_cons_succ, i64_w, i32_w]
                   rfl
                  refine pure_ (i := 4) (N := some 77) (v := ?_) (a' := ?_) #[true, true, true, true, true, false, false, false, false, false, false, false, false, false, false, false, false, false, false, false, false, false] rfl rfl (any_of HT_.out (by kernel_rfl)) (fun _ _ _ h => h) (Or.inl ⟨by rfl, ?_⟩) ?_ ?_
                  rotate_left
                  ·
                   intro w'
                   go_simp
                   with_reducible rfl
                  rotate_left
                  ·
                   simp only [Act.put, List.setIfInBounds_toArray, List.set_cons_zero, List.set_cons_succ, i64_w, i32_w]
                   rfl
                  refine pure_ (i := 8) (N := some 81) (v := ?_) (a' := ?_) #[true, true, true, true, true, false, false, false, true, false, false, false, false, false, false, false, false, false, false, false, false, false] rfl rfl (any_of HT_.out (by kernel_rfl)) (fun _ _ _ h => h) (Or.inl ⟨by rfl, ?_⟩) ?_ ?_
                  rotate_left
                  ·
                   intro w'
                   go_simp
                   with_reducible rfl
                  rotate_left
                  ·
                   simp only [Act.put, List.setIfInBounds_toArray, List.set_cons_zero, List.set_cons_succ, i64_w, i32_w]
                   rfl
                  refine pure_ (i := 10) (N := some 83) (v := ?_) (a' := ?_) #[true, true, true, true, true, false, false, false, true, false, true, false, false, false, false, false, false, false, false, false, false, false] rfl rfl (any_of HT_.out (by kernel_rfl)) (fun _ _ _ h => h) (Or.inl ⟨by rfl, ?_⟩) ?_ ?_
                  rotate_left
                  ·
                   intro w'
                   go_simp
                   with_reducible rfl
                  rotate_left
                  ·
                   simp only [Act.put, List.setIfInBounds_toArray, List.set_cons_zero, List.set_cons_succ, i64_w, i32_w]
                   rfl
                  refine pure_ (i := 12) (N := some 85) (v := ?_) (a' := ?_) #[true, true, true, true, true, false, false, false, true, false, true, false, true, false, false, false, false, false, false, false, false, false] rfl rfl (any_of HT_.out (by kernel_rfl)) (fun _ _ _ h => h) (Or.inl ⟨by rfl, ?_⟩) ?_ ?_
                  rotate_left
                  ·
                   intro w'
                   go_simp
                   with_reducible rfl
                  rotate_left
                  ·
                   simp only [Act.put, List.setIfInBounds_toArray, List.set_cons_zero, List.set_cons_succ, i64_w, i32_w]
                   rfl
                  refine pure_ (i := 14) (N := some 87) (v := ?_) (a' := ?_) #[true, true, true, true, true, false, false, false, true, false, true, false, true, false, true, false, false, false, false, false, false, false] rfl rfl (any_of HT_.out (by kernel_rfl)) (fun _ _ _ h => h) (Or.inl ⟨by rfl, ?_⟩) ?_ ?_
                  rotate_left
                  ·
                   intro w'
                   go_simp
                   with_reducible rfl
                  rotate_left
                  ·
                   simp only [Act.put, List.setIfInBounds_toArray, List.set_cons_zero, List.set_cons_succ, i64_w, i32_w]
                   rfl
                  refine take_ (i := 5) (N := some 78) (v := ?_) (a' := ?_) #[true, true, true, true, true, true, false, false, true, false, true, false, true, false, true, false, false, false, false, false, false, false] rfl rfl (take_ofW HT_.out HW_.out (by kernel_rfl)) (fun _ _ _ h => h) (Or.inl ⟨by rfl, ?_⟩) hHeld ?_ ?_
                  rotate_left
                  ·
                   rintro w' ⟨s0, s1, s2, s3, s4, s5, s6, s7, s8, s9, s10, s11, s12, s13, s14, s15, s16⟩
                   go_simp
                   with_reducible rfl
                  rotate_left
                  ·
                   simp only [Act.put, List.setIfInBounds_toArray, List.set_cons_zero, List.set_cons_succ, i64_w, i32_w]
                   rfl
                  refine pure_ (i := 6) (N := some 79) (v := ?_) (a' := ?_) #[true, true, true, true, true, true, true, false, true, false, true, false, true, false, true, false, false, false, false, false, false, false] rfl rfl (any_of HT_.out (by kernel_rfl)) (fun _ _ _ h => h) (Or.inl ⟨by rfl, ?_⟩) ?_ ?_
                  rotate_left
                  ·
                   intro w'
                   go_simp
                   with_reducible rfl
                  rotate_left
                  ·
                   simp only [Act.put, List.setIfInBounds_toArray, List.set_cons_zero, List.set_cons_succ, i64_w, i32_w]
                   rfl
                  refine pure_ (i := 7) (N := some 80) (v := ?_) (a' := ?_) #[true, true, true, true, true, true, true, true, true, false, true, false, true, false, true, false, false, false, false, false, false, false] rfl rfl (any_of HT_.out (by kernel_rfl)) (fun _ _ _ h => h) (Or.inl ⟨by rfl, ?_⟩) ?_ ?_
                  rotate_left
                  ·
                   intro w'
                   go_simp
                   with_reducible rfl
                  rotate_left
                  ·
                   simp only [Act.put, List.setIfInBounds_toArray, List.set_cons_zero, List.set_cons_succ, i64_w, i32_w]
                   rfl
                  refine take_ (i := 9) (N := some 82) (v := ?_) (a' := ?_) #[true, true, true, true, true, true, true, true, true, true, true, false, true, false, true, false, false, false, false, false, false, false] rfl rfl (take_ofW HT_.out HW_.out (by kernel_rfl)) (fun _ _ _ h => h) (Or.inl ⟨by rfl, ?_⟩) hHeld ?_ ?_
                  rotate_left
                  ·
                   rintro w' ⟨s0, s1, s2, s3, s4, s5, s6, s7, s8, s9, s10, s11, s12, s13, s14, s15, s16⟩
                   go_simp
                   with_reducible rfl
                  rotate_left
                  ·
                   simp only [Act.put, List.setIfInBounds_toArray, List.set_cons_zero, List.set_cons_succ, i64_w, i32_w]
                   rfl
                  refine take_ (i := 11) (N := some 84) (v := ?_) (a' := ?_) #[true, true, true, true, true, true, true, true, true, true, true, true, true, false, true, false, false, false, false, false, false, false] rfl rfl (take_ofW HT_.out HW_.out (by kernel_rfl)) (fun _ _ _ h => h) (Or.inl ⟨by rfl, ?_⟩) hHeld ?_ ?_
                  rotate_left
                  ·
                   rintro w' ⟨s0, s1, s2, s3, s4, s5, s6, s7, s8, s9, s10, s11, s12, s13, s14, s15, s16⟩
                   go_simp
                   with_reducible rfl
                  rotate_left
                  ·
                   simp only [Act.put, List.setIfInBounds_toArray, List.set_cons_zero, List.set_cons_succ, i64_w, i32_w]
                   rfl
                  refine take_ (i := 13) (N := some 86) (v := ?_) (a' := ?_) #[true, true, true, true, true, true, true, true, true, true, true, true, true, true, true, false, false, false, false, false, false, false] rfl rfl (take_ofW HT_.out HW_.out (by kernel_rfl)) (fun _ _ _ h => h) (Or.inl ⟨by rfl, ?_⟩) hHeld ?_ ?_
                  rotate_left
                  ·
                   rintro w' ⟨s0, s1, s2, s3, s4, s5, s6, s7, s8, s9, s10, s11, s12, s13, s14, s15, s16⟩
                   go_simp
                   with_reducible rfl
                  rotate_left
                  ·
                   simp only [Act.put, List.setIfInBounds_toArray, List.set_cons_zero, List.set_cons_succ, i64_w, i32_w]
                   rfl
                  refine take_ (i := 15) (N := some 88) (v := ?_) (a' := ?_) #[true, true, true, true, true, true, true, true, true, true, true, true, true, true, true, true, false, false, false, false, false, false] rfl rfl (take_ofW HT_.out HW_.out (by kernel_rfl)) (fun _ _ _ h => h) (Or.inl ⟨by rfl, ?_⟩) hHeld ?_ ?_
                  rotate_left
                  ·
                   rintro w' ⟨s0, s1, s2, s3, s4, s5, s6, s7, s8, s9, s10, s11, s12, s13, s14, s15, s16⟩
                   go_simp
                   with_reducible rfl
                  rotate_left
                  ·
                   simp only [Act.put, List.setIfInBounds_toArray, List.set_cons_zero, List.set_cons_succ, i64_w, i32_w]
                   rfl
                  refine pure_ (i := 16) (N := some 89) (v := ?_) (a' := ?_) #[true, true, true, true, true, true, true, true, true, true, true, true, true, true, true, true, true, false, false, false, false, false] rfl rfl (any_of HT_.out (by kernel_rfl)) (fun _ _ _ h => h) (Or.inl ⟨by rfl, ?_⟩) ?_ ?_
                  rotate_left
                  ·
                   intro w'
                   go_simp
                   with_reducible rfl
                  rotate_left
                  ·
                   simp only [Act.put, List.setIfInBounds_toArray, List.set_cons_zero, List.set_cons_succ, i64_w, i32_w]
                   rfl
                  refine pure_ (i := 17) (N := some 90) (v := ?_) (a' := ?_) #[true, true, true, true, true, true, true, true, true, true, true, true, true, true, true, true, true, true, false, false, false, false] rfl rfl (any_of HT_.out (by kernel_rfl)) (fun _ _ _ h => h) (Or.inl ⟨by rfl, ?_⟩) ?_ ?_
                  rotate_left
                  ·
                   intro w'
                   go_simp
                   with_reducible rfl
                  rotate_left
                  ·
                   simp only [Act.put, List.setIfInBounds_toArray, List.set_cons_zero, List.set_cons_succ, i64_w, i32_w]
                   rfl
                  refine one_ (i := 18) (N := some 91) #[true, true, true, true, true, true, true, true, true, true, true, true, true, true, true, true, true, true, true, false, false, false] rfl rfl (one_of HT_.out (by kernel_rfl)) (by decide) (fun K hK => ?_)
                  refine goes_ Try.func17 (by kernel_rfl) rfl #[.int .u32 ((wrap64 (4 * ((rd_T49 l0_11 x7_2).f1))) % 4294967296), .slice A34 ((l0_5.take ((wrap64 (((rd_T49 l0_11 x7_2).f1) + ((rd_T49 l0_11 x7_2).f2))) : Int).toNat).drop (((rd_T49 l0_11 x7_2).f1) : Int).toNat).length (c0_5 - ((rd_T49 l0_11 x7_2).f1).toNat)] (by rfl) rfl rfl (by (try simp only [List.map_toArray, List.map_cons, List.map_nil]); first | done | (rw [show ((l0_5.take ((wrap64 (((rd_T49 l0_11 x7_2).f1) + ((rd_T49 l0_11 x7_2).f2))) : Int).toNat).drop (((rd_T49 l0_11 x7_2).f1) : Int).toNat).length = ((wrap64 (((rd_T49 l0_11 x7_2).f1) + ((rd_T49 l0_11 x7_2).f2))).toNat - ((rd_T49 l0_11 x7_2).f1).toNat) from (by rw [List.length_drop, List.length_take]; have h_ : ((wrap64 (((rd_T49 l0_11 x7_2).f1) + ((rd_T49 l0_11 x7_2).f2))) : Int) ≤ (l0_5.length : Int) := of_decide_eq_true (by first | (with_reducible assumption) | assumption); omega)] <;> rfl) | rfl | (simp only [List.length_drop, List.length_take]; rfl)) ?_
                  with_reducible refine (pascalineref06_Print.calls k2 ((wrap64 (4 * ((rd_T49 l0_11 x7_2).f1))) % 4294967296) _ _ ((l0_5.take ((wrap64 (((rd_T49 l0_11 x7_2).f1) + ((rd_T49 l0_11 x7_2).f2))) : Int).toNat).drop (((rd_T49 l0_11 x7_2).f1) : Int).toNat) t346 _ ?side1 ?side2 A26.out).mono ?_
                  (case side1 => repeat (first | exact (Kd.C_below HR345.out HB.out) | (with_reducible refine Kd.C_alloc ?_ _) | (with_reducible refine Kd.C_drewN ?_ _) | (with_reducible refine Kd.C_drew ?_)))
                  (case side2 => exact HC345.out)
                  rintro e w35 ⟨rfl, hb⟩
                  refine ⟨_, rfl, ?_⟩
                  have n0_ := mK (kB (g := gb339) (o := .cells #[.int .u32 a0_0, .int .u32 a0_1, .int .u32 a0_2, .int .u32 a0_3, .int .u32 a0_4, .slice A0_5 l0_5.length c0_5, .slice A0_6 l0_6.length c0_6, .int .u32 a0_7, .int .u32 a0_8, .int .u32 a0_9, .int .u32 a0_10, .slice (some ad343) l0_11.length c0_11] 40 (0, 0)) (by (with_reducible repeat (first | refine kN ?_ _ | refine kD ?_ | refine kA ?_ _)); exact BK339.out) hb)
                  have n1_ := mK (kB (g := gb344) (o := .cells #[.string ((rd_T49 l0_11 x7_2).f0), .int .i64 ((rd_T49 l0_11 x7_2).f1), .int .i64 ((rd_T49 l0_11 x7_2).f2), .int .i64 ((rd_T49 l0_11 x7_2).f3), .int .i64 ((rd_T49 l0_11 x7_2).f4)] 49 (0, 0)) (by (with_reducible repeat (first | refine kN ?_ _ | refine kD ?_ | refine kA ?_ _)); exact BK344.out) hb)
                  have n2_ := mK (bP (by repeat (first | (with_reducible first | exact HB.out | apply bA | apply bN | apply bD | refine bS ?_ GE339.out | refine bS ?_ GE344.out) | exact HB.out)) hb)
                  clear BK339
                  clear BK344
                  clear HB
                  have BK339 := n0_
                  have BK344 := n1_
                  have HB := n2_
                  clear n0_ n1_ n2_
                  (try clear hb)
                  refine hK.out _ _ ⟨(kC BK344.out 0).trans rfl, (kC BK344.out 1).trans rfl, (kC BK344.out 2).trans rfl, (kC BK344.out 3).trans rfl, (kC BK344.out 4).trans rfl, (kC BK339.out 0).trans rfl, (kC BK339.out 1).trans rfl, (kC BK339.out 2).trans rfl, (kC BK339.out 3).trans rfl, (kC BK339.out 4).trans rfl, (kC BK339.out 5).trans rfl, (kC BK339.out 6).trans rfl, (kC BK339.out 7).trans rfl, (kC BK339.out 8).trans rfl, (kC BK339.out 9).trans rfl, (kC BK339.out 10).trans rfl, (kC BK339.out 11).trans rfl⟩ (fun hHeld => ?_)
                  clear hK K
                  refine norm_ (a' := ?_) ?_ ?_
                  rotate_left
                  ·
                   show Act.put _ (some 91) _ = _
                   simp only [Act.put, List.setIfInBounds_toArray, List.set_cons_zero, List.set_cons_succ, i64_w, i32_w]
                   rfl
                  refine pure_ (i := 19) (N := some 92) (v := ?_) (a' := ?_) #[true, true, true, true, true, true, true, true, true, true, true, true, true, true, true, true, true, true, true, true, false, false] rfl rfl (any_of HT_.out (by kernel_rfl)) (fun _ _ _ h => h) (Or.inl ⟨by rfl, ?_⟩) ?_ ?_
                  rotate_left
                  ·
                   intro w'
                   go_simp
                   with_reducible rfl
                  rotate_left
                  ·
                   simp only [Act.put, List.setIfInBounds_toArray, List.set_cons_zero, List.set_cons_succ, i64_w, i32_w]
                   rfl
                  refine pure_ (i := 20) (N := some 93) (v := ?_) (a' := ?_) #[true, true, true, true, true, true, true, true, true, true, true, true, true, true, true, true, true, true, true, true, true, false] rfl rfl (any_of HT_.out (by kernel_rfl)) (fun _ _ _ h => h) (Or.inl ⟨by rfl, ?_⟩) ?_ ?_
                  rotate_left
                  ·
                   intro w'
                   go_simp
                   with_reducible rfl
                  rotate_left
                  ·
                   simp only [Act.put, List.setIfInBounds_toArray, List.set_cons_zero, List.set_cons_succ, i64_w, i32_w]
                   rfl
                  refine pure_ (i := 21) (N := some 4) (v := ?_) (a' := ?_) #[true, true, true, true, true, true, true, true, true, true, true, true, true, true, true, true, true, true, true, true, true, true] rfl rfl (any_of HT_.out (by kernel_rfl)) (fun _ _ _ h => h) (Or.inl ⟨by rfl, ?_⟩) ?_ ?_
                  rotate_left
                  ·
                   intro w'
                   go_simp
                   with_reducible rfl
                  rotate_left
                  ·
                   simp only [Act.put, List.setIfInBounds_toArray, List.set_cons_zero, List.set_cons_succ, i64_w, i32_w]
                   rfl
                  refine done_ (done_of HT_.out (by kernel_rfl)) ?_
                  try go_wp2
                  go_ret
                  exact ⟨by first | rfl | (simp [errW_none, errW_some] <;> rfl) | (simp [*, errW_none, errW_some] <;> rfl), by repeat (first | (with_reducible first | exact HB.out | apply bA | apply bN | apply bD | refine bS ?_ GE339.out | refine bS ?_ GE344.out) | exact HB.out)⟩
                 ·
                  rw [if_neg c25] at H
                  exact absurd H (by simp)
                ·
                 rw [if_neg c24] at H
                 exact absurd H (by simp)
               ·
                rw [if_neg c23] at H
                exact absurd H (by simp)
              ·
               rw [if_neg c22] at H
               have c22b0 : (t342 == 0) = false := bQ c22
               have c22b1 : (t342 != 0) = true := bne_iff_ne.mpr c22
               obtain rfl := Option.some.inj H
               have hcz36_0 : wr.cell? ⟨gb339, 0, none⟩ = some (.int .u32 a0_0) := (kC BK339.out 0).trans rfl
               have hcz36_1 : wr.cell? ⟨gb339, 1, none⟩ = some (.int .u32 a0_1) := (kC BK339.out 1).trans rfl
               have hcz36_2 : wr.cell? ⟨gb339, 2, none⟩ = some (.int .u32 a0_2) := (kC BK339.out 2).trans rfl
               have hcz36_3 : wr.cell? ⟨gb339, 3, none⟩ = some (.int .u32 a0_3) := (kC BK339.out 3).trans rfl
               have hcz36_4 : wr.cell? ⟨gb339, 4, none⟩ = some (.int .u32 a0_4) := (kC BK339.out 4).trans rfl
               have hcz36_5 : wr.cell? ⟨gb339, 5, none⟩ = some (.slice A0_5 l0_5.length c0_5) := (kC BK339.out 5).trans rfl
               have hcz36_6 : wr.cell? ⟨gb339, 6, none⟩ = some (.slice A0_6 l0_6.length c0_6) := (kC BK339.out 6).trans rfl
               have hcz36_7 : wr.cell? ⟨gb339, 7, none⟩ = some (.int .u32 a0_7) := (kC BK339.out 7).trans rfl
               have hcz36_8 : wr.cell? ⟨gb339, 8, none⟩ = some (.int .u32 a0_8) := (kC BK339.out 8).trans rfl
               have hcz36_9 : wr.cell? ⟨gb339, 9, none⟩ = some (.int .u32 a0_9) := (kC BK339.out 9).trans rfl
               have hcz36_10 : wr.cell? ⟨gb339, 10, none⟩ = some (.int .u32 a0_10) := (kC BK339.out 10).trans rfl
               have hcz36_11 : wr.cell? ⟨gb339, 11, none⟩ = some (.slice A0_11 l0_11.length c0_11) := (kC BK339.out 11).trans rfl
               have hfz36_0 := kF BK339.out 0
               have hfz36_1 := kF BK339.out 1
               have hfz36_2 := kF BK339.out 2
               have hfz36_3 := kF BK339.out 3
               have hfz36_4 := kF BK339.out 4
               have hfz36_5 := kF BK339.out 5
               have hfz36_6 := kF BK339.out 6
               have hfz36_7 := kF BK339.out 7
               have hfz36_8 := kF BK339.out 8
               have hfz36_9 := kF BK339.out 9
               have hfz36_10 := kF BK339.out 10
               have hfz36_11 := kF BK339.out 11
               have p343 : 0 ≤ (x7_2 : Int) := of_decide_eq_true (by first | (with_reducible assumption) | assumption)
               have q343 : x7_2 < (l0_11.length : Int) := of_decide_eq_true (by first | (with_reducible assumption) | assumption)
               obtain ⟨ad343, e343, hx343_0, hx343_1, hx343_2, hx343_3, hx343_4⟩ := at_T49 HR0_11.out x7_2 p343 q343
               cases e343
               replace hx343_0 := (HB.out.cell (World.block_lt_of_cell? w _ hx343_0)).trans hx343_0
               replace hx343_1 := (HB.out.cell (World.block_lt_of_cell? w _ hx343_1)).trans hx343_1
               replace hx343_2 := (HB.out.cell (World.block_lt_of_cell? w _ hx343_2)).trans hx343_2
               replace hx343_3 := (HB.out.cell (World.block_lt_of_cell? w _ hx343_3)).trans hx343_3
               replace hx343_4 := (HB.out.cell (World.block_lt_of_cell? w _ hx343_4)).trans hx343_4
               replace p343 := eq_true p343
               replace q343 := eq_true q343
               try go_wp2_with (first | ((with_reducible refine gate_dst (N := 8) rfl ?_); (try (refine gate_guard (by rfl) ?_; dsimp only)); refine box_event ?hg (N := 8) ?hd (cs := #[.string (⟨#[]⟩ : ByteArray), .int .i64 0, .int .i64 0, .int .i64 0, .int .i64 0]) (t := 49) ?hr ?_; (case hd => rfl); (case hg => rfl); (case hr => first | (go_simp; done) | (go_simp; rfl)); intro gb344 hg w37 hbox hb; have n0_ := mK (kB (g := gb339) (o := .cells #[.int .u32 a0_0, .int .u32 a0_1, .int .u32 a0_2, .int .u32 a0_3, .int .u32 a0_4, .slice A0_5 l0_5.length c0_5, .slice A0_6 l0_6.length c0_6, .int .u32 a0_7, .int .u32 a0_8, .int .u32 a0_9, .int .u32 a0_10, .slice (some ad343) l0_11.length c0_11] 40 (0, 0)) (by (with_reducible repeat (first | refine kN ?_ _ | refine kD ?_ | refine kA ?_ _)); exact BK339.out) hb); have n1_ := mK (bP (by repeat (first | (with_reducible first | exact HB.out | apply bA | apply bN | apply bD | refine bS ?_ GE339.out) | exact HB.out)) hb); have n2_ := mK (hbox); have n3_ := mK ((by rw [hg]; exact (bZ (by repeat (first | (with_reducible first | exact HB.out | apply bA | apply bN | apply bD | refine bS ?_ GE339.out) | exact HB.out))) : w.heap.size ≤ gb344)); have n4_ := mK ((by rw [hg]; exact (bZ (by repeat (first | (with_reducible first | exact HB.out | apply bA | apply bN | apply bD | refine bS ?_ GE339.out) | exact HB.out))) : w.heap.size ≤ gb344)); have n5_ := mK ((by rw [hg]; exact Nat.ne_of_lt (blk_lt (g := gb339) (o := .cells #[.int .u32 a0_0, .int .u32 a0_1, .int .u32 a0_2, .int .u32 a0_3, .int .u32 a0_4, .slice A0_5 l0_5.length c0_5, .slice A0_6 l0_6.length c0_6, .int .u32 a0_7, .int .u32 a0_8, .int .u32 a0_9, .int .u32 a0_10, .slice (some ad343) l0_11.length c0_11] 40 (0, 0)) (by (with_reducible repeat (first | refine kN ?_ _ | refine kD ?_ | refine kA ?_ _)); exact BK339.out)) : gb339 ≠ gb344)); have n6_ := mK ((by rw [hg]; exact Nat.ne_of_gt (blk_lt (g := gb339) (o := .cells #[.int .u32 a0_0, .int .u32 a0_1, .int .u32 a0_2, .int .u32 a0_3, .int .u32 a0_4, .slice A0_5 l0_5.length c0_5, .slice A0_6 l0_6.length c0_6, .int .u32 a0_7, .int .u32 a0_8, .int .u32 a0_9, .int .u32 a0_10, .slice (some ad343) l0_11.length c0_11] 40 (0, 0)) (by (with_reducible repeat (first | refine kN ?_ _ | refine kD ?_ | refine kA ?_ _)); exact BK339.out)) : gb344 ≠ gb339)); clear BK339; clear HB; have BK339 := n0_; have HB := n1_; have BK344 := n2_; have GW344 := n3_; have GE344 := n4_; have NB339_344 := n5_; have NB344_339 := n6_; clear n0_ n1_ n2_ n3_ n4_ n5_ n6_; clear hb hbox hg; have hnb38 := NB344_339.out; have hnc38 := NB339_344.out; obtain ⟨hcz39_0, hcz39_1, hcz39_2, hcz39_3, hcz39_4, hfz39_0, hfz39_1, hfz39_2, hfz39_3, hfz39_4⟩ := cf5 BK344.out; have hcz40_0 : w37.cell? ⟨gb339, 0, none⟩ = some (.int .u32 a0_0) := (kC BK339.out 0).trans rfl; have hcz40_1 : w37.cell? ⟨gb339, 1, none⟩ = some (.int .u32 a0_1) := (kC BK339.out 1).trans rfl; have hcz40_2 : w37.cell? ⟨gb339, 2, none⟩ = some (.int .u32 a0_2) := (kC BK339.out 2).trans rfl; have hcz40_3 : w37.cell? ⟨gb339, 3, none⟩ = some (.int .u32 a0_3) := (kC BK339.out 3).trans rfl; have hcz40_4 : w37.cell? ⟨gb339, 4, none⟩ = some (.int .u32 a0_4) := (kC BK339.out 4).trans rfl; have hcz40_5 : w37.cell? ⟨gb339, 5, none⟩ = some (.slice A0_5 l0_5.length c0_5) := (kC BK339.out 5).trans rfl; have hcz40_6 : w37.cell? ⟨gb339, 6, none⟩ = some (.slice A0_6 l0_6.length c0_6) := (kC BK339.out 6).trans rfl; have hcz40_7 : w37.cell? ⟨gb339, 7, none⟩ = some (.int .u32 a0_7) := (kC BK339.out 7).trans rfl; have hcz40_8 : w37.cell? ⟨gb339, 8, none⟩ = some (.int .u32 a0_8) := (kC BK339.out 8).trans rfl; have hcz40_9 : w37.cell? ⟨gb339, 9, none⟩ = some (.int .u32 a0_9) := (kC BK339.out 9).trans rfl; have hcz40_10 : w37.cell? ⟨gb339, 10, none⟩ = some (.int .u32 a0_10) := (kC BK339.out 10).trans rfl; have hcz40_11 : w37.cell? ⟨gb339, 11, none⟩ = some (.slice (some ad343) l0_11.length c0_11) := (kC BK339.out 11).trans rfl; have hfz40_0 := kF BK339.out 0; have hfz40_1 := kF BK339.out 1; have hfz40_2 := kF BK339.out 2; have hfz40_3 := kF BK339.out 3; have hfz40_4 := kF BK339.out 4; have hfz40_5 := kF BK339.out 5; have hfz40_6 := kF BK339.out 6; have hfz40_7 := kF BK339.out 7; have hfz40_8 := kF BK339.out 8; have hfz40_9 := kF BK339.out 9; have hfz40_10 := kF BK339.out 10; have hfz40_11 := kF BK339.out 11))
               have n0_ : Aside0 ((((((w37.setCell ⟨gb344, 0, none⟩ (.string ((rd_T49 l0_11 x7_2).f0))).setCell ⟨gb344, 1, none⟩ (.int .i64 ((rd_T49 l0_11 x7_2).f1))).setCell ⟨gb344, 2, none⟩ (.int .i64 ((rd_T49 l0_11 x7_2).f2))).setCell ⟨gb344, 3, none⟩ (.int .i64 ((rd_T49 l0_11 x7_2).f3))).setCell ⟨gb344, 4, none⟩ (.int .i64 ((rd_T49 l0_11 x7_2).f4))).heap[gb339]? = some (.cells #[.int .u32 a0_0, .int .u32 a0_1, .int .u32 a0_2, .int .u32 a0_3, .int .u32 a0_4, .slice A0_5 l0_5.length c0_5, .slice A0_6 l0_6.length c0_6, .int .u32 a0_7, .int .u32 a0_8, .int .u32 a0_9, .int .u32 a0_10, .slice (some ad343) l0_11.length c0_11] 40 (0, 0))) := ⟨by (with_reducible repeat (first | refine kN ?_ _ | refine kD ?_ | refine kA ?_ _)); refine kR ?_ NB339_344.out _; (with_reducible repeat (first | refine kN ?_ _ | refine kD ?_ | refine kA ?_ _)); refine kR ?_ NB339_344.out _; (with_reducible repeat (first | refine kN ?_ _ | refine kD ?_ | refine kA ?_ _)); refine kR ?_ NB339_344.out _; (with_reducible repeat (first | refine kN ?_ _ | refine kD ?_ | refine kA ?_ _)); refine kR ?_ NB339_344.out _; (with_reducible repeat (first | refine kN ?_ _ | refine kD ?_ | refine kA ?_ _)); refine kR ?_ NB339_344.out _; (with_reducible repeat (first | refine kN ?_ _ | refine kD ?_ | refine kA ?_ _)); exact BK339.out⟩
               have n1_ : Aside0 ((((((w37.setCell ⟨gb344, 0, none⟩ (.string ((rd_T49 l0_11 x7_2).f0))).setCell ⟨gb344, 1, none⟩ (.int .i64 ((rd_T49 l0_11 x7_2).f1))).setCell ⟨gb344, 2, none⟩ (.int .i64 ((rd_T49 l0_11 x7_2).f2))).setCell ⟨gb344, 3, none⟩ (.int .i64 ((rd_T49 l0_11 x7_2).f3))).setCell ⟨gb344, 4, none⟩ (.int .i64 ((rd_T49 l0_11 x7_2).f4))).heap[gb344]? = some (.cells #[.string ((rd_T49 l0_11 x7_2).f0), .int .i64 ((rd_T49 l0_11 x7_2).f1), .int .i64 ((rd_T49 l0_11 x7_2).f2), .int .i64 ((rd_T49 l0_11 x7_2).f3), .int .i64 ((rd_T49 l0_11 x7_2).f4)] 49 (0, 0))) := ⟨by (with_reducible repeat (first | refine kN ?_ _ | refine kD ?_ | refine kA ?_ _)); refine kP (cs := #[.string ((rd_T49 l0_11 x7_2).f0), .int .i64 ((rd_T49 l0_11 x7_2).f1), .int .i64 ((rd_T49 l0_11 x7_2).f2), .int .i64 ((rd_T49 l0_11 x7_2).f3), .int .i64 0]) ?_ 4 _ rfl; (with_reducible repeat (first | refine kN ?_ _ | refine kD ?_ | refine kA ?_ _)); refine kP (cs := #[.string ((rd_T49 l0_11 x7_2).f0), .int .i64 ((rd_T49 l0_11 x7_2).f1), .int .i64 ((rd_T49 l0_11 x7_2).f2), .int .i64 0, .int .i64 0]) ?_ 3 _ rfl; (with_reducible repeat (first | refine kN ?_ _ | refine kD ?_ | refine kA ?_ _)); refine kP (cs := #[.string ((rd_T49 l0_11 x7_2).f0), .int .i64 ((rd_T49 l0_11 x7_2).f1), .int .i64 0, .int .i64 0, .int .i64 0]) ?_ 2 _ rfl; (with_reducible repeat (first | refine kN ?_ _ | refine kD ?_ | refine kA ?_ _)); refine kP (cs := #[.string ((rd_T49 l0_11 x7_2).f0), .int .i64 0, .int .i64 0, .int .i64 0, .int .i64 0]) ?_ 1 _ rfl; (with_reducible repeat (first | refine kN ?_ _ | refine kD ?_ | refine kA ?_ _)); refine kP (cs := #[.string (⟨#[]⟩ : ByteArray), .int .i64 0, .int .i64 0, .int .i64 0, .int .i64 0]) ?_ 0 _ rfl; (with_reducible repeat (first | refine kN ?_ _ | refine kD ?_ | refine kA ?_ _)); exact BK344.out⟩
               have n2_ : Aside0 (Below w.heap.size w (((((w37.setCell ⟨gb344, 0, none⟩ (.string ((rd_T49 l0_11 x7_2).f0))).setCell ⟨gb344, 1, none⟩ (.int .i64 ((rd_T49 l0_11 x7_2).f1))).setCell ⟨gb344, 2, none⟩ (.int .i64 ((rd_T49 l0_11 x7_2).f2))).setCell ⟨gb344, 3, none⟩ (.int .i64 ((rd_T49 l0_11 x7_2).f3))).setCell ⟨gb344, 4, none⟩ (.int .i64 ((rd_T49 l0_11 x7_2).f4)))) := ⟨by repeat (first | (with_reducible first | exact HB.out | apply bA | apply bN | apply bD | refine bS ?_ GE339.out | refine bS ?_ GE344.out) | exact HB.out)⟩
               (try clear BK339)
               (try clear BK344)
               (try clear HB)
               generalize (((((w37.setCell ⟨gb344, 0, none⟩ (.string ((rd_T49 l0_11 x7_2).f0))).setCell ⟨gb344, 1, none⟩ (.int .i64 ((rd_T49 l0_11 x7_2).f1))).setCell ⟨gb344, 2, none⟩ (.int .i64 ((rd_T49 l0_11 x7_2).f2))).setCell ⟨gb344, 3, none⟩ (.int .i64 ((rd_T49 l0_11 x7_2).f3))).setCell ⟨gb344, 4, none⟩ (.int .i64 ((rd_T49 l0_11 x7_2).f4))) = w41 at n0_ n1_ n2_ ⊢
               have BK339 := n0_
               have BK344 := n1_
               have HB := n2_
               clear n0_ n1_ n2_
               have n0_ := mK (kD BK339.out)
               have n1_ := mK (kD BK344.out)
               have n2_ := mK (bD HB.out)
               clear BK339
               clear BK344
               clear HB
               have BK339 := n0_
               have BK344 := n1_
               have HB := n2_
               clear n0_ n1_ n2_
               refine start_ (n := 22) (S := fun w' => True) (ds := []) #[false, false, false, false, false, false, false, false, false, false, false, false, false, false, false, false, false, false, false, false, false, false] (by kernel_rfl) rfl rfl trivial (fun hHeld => ?_); refine with_tabW pascalinelaw31_ReportLists.tab11 pascalinelaw31_ReportLists.bits11 (fun HT_ HW_ => ?_)
               generalize w41.drew = w42 at BK339 BK344 HB hHeld ⊢
               refine pure_ (i := 0) (N := some 73) (v := ?_) (a' := ?_) #[true, false, false, false, false, false, false, false, false, false, false, false, false, false, false, false, false, false, false, false, false, false] rfl rfl (any_of HT_.out (by kernel_rfl)) (fun _ _ _ h => h) (Or.inl ⟨by rfl, ?_⟩) ?_ ?_
               rotate_left
               ·
                intro w'
                go_simp
                with_reducible rfl
               rotate_left
               ·
                simp only [Act.put, List.setIfInBounds_toArray, List.set_cons_zero, List.set_cons_succ, i64_w, i32_w]
                rfl
               refine pure_ (i := 1) (N := some 74) (v := ?_) (a' := ?_) #[true, true, false, false, false, false, false, false, false, false, false, false, false, false, false, false, false, false, false, false, false, false] rfl rfl (any_of HT_.out (by kernel_rfl)) (fun _ _ _ h => h) (Or.inl ⟨by rfl, ?_⟩) ?_ ?_
               rotate_left
               ·
                intro w'
                go_simp
                with_reducible rfl
               rotate_left
               ·
                simp only [Act.put, List.setIfInBounds_toArray, List.set_cons_zero, List.set_cons_succ, i64_w, i32_w]
                rfl
               refine pure_ (i := 2) (N := some 75) (v := ?_) (a' := ?_) #[true, true, true, false, false, false, false, false, false, false, false, false, false, false, false, false, false, false, false, false, false, false] rfl rfl (any_of HT_.out (by kernel_rfl)) (fun _ _ _ h => h) (Or.inl ⟨by rfl, ?_⟩) ?_ ?_
               rotate_left
               ·
                intro w'
                go_simp
                with_reducible rfl
               rotate_left
               ·
                simp only [Act.put, List.setIfInBounds_toArray, List.set_cons_zero, List.set_cons_succ, i64_w, i32_w]
                rfl
               refine pure_ (i := 3) (N := some 76) (v := undef) (a' := ?_) #[true, true, true, true, false, false, false, false, false, false, false, false, false, false, false, false, false, false, false, false, false, false] rfl rfl (any_of HT_.out (by kernel_rfl)) (fun _ _ _ h => h) (Or.inr ⟨by rfl, rfl⟩) ?_ ?_
               rotate_left
               ·
                simp only [Act.put, List.setIfInBounds_toArray, List.set_cons_zero, List.set_cons_succ, i64_w, i32_w]
                rfl
               refine pure_ (i := 4) (N := some 77) (v := undef) (a' := ?_) #[true, true, true, true, true, false, false, false, false, false, false, false, false, false, false, false, false, false, false, false, false, false] rfl rfl (any_of HT_.out (by kernel_rfl)) (fun _ _ _ h => h) (Or.inr ⟨by rfl, rfl⟩) ?_ ?_
               rotate_left
               ·
                simp only [Act.put, List.setIfInBounds_toArray, List.set_cons_zero, List.set_cons_succ, i64_w, i32_w]
                rfl
               refine pure_ (i := 5) (N := some 78) (v := undef) (a' := ?_) #[true, true, true, true, true, true, false, false, false, false, false, false, false, false, false, false, false, false, false, false, false, false] rfl rfl (any_of HT_.out (by kernel_rfl)) (fun _ _ _ h => h) (Or.inr ⟨by rfl, rfl⟩) ?_ ?_
               rotate_left
               ·
                simp only [Act.put, List.setIfInBounds_toArray, List.set_cons_zero, List.set_cons_succ, i64_w, i32_w]
                rfl
               refine pure_ (i := 6) (N := some 79) (v := undef) (a' := ?_) #[true, true, true, true, true, true, true, false, false, false, false, false, false, false, false, false, false, false, false, false, false, false] rfl rfl (any_of HT_.out (by kernel_rfl)) (fun _ _ _ h => h) (Or.inr ⟨by rfl, rfl⟩) ?_ ?_
               rotate_left
               ·
                simp only [Act.put, List.setIfInBounds_toArray, List.set_cons_zero, List.set_cons_succ, i64_w, i32_w]
                rfl
               refine pure_ (i := 7) (N := some 80) (v := undef) (a' := ?_) #[true, true, true, true, true, true, true, true, false, false, false, false, false, false, false, false, false, false, false, false, false, false] rfl rfl (any_of HT_.out (by kernel_rfl)) (fun _ _ _ h => h) (Or.inr ⟨by rfl, rfl⟩) ?_ ?_
               rotate_left
               ·
                simp only [Act.put, List.setIfInBounds_toArray, List.set_cons_zero, List.set_cons_succ, i64_w, i32_w]
                rfl
               refine pure_ (i := 8) (N := some 81) (v := undef) (a' := ?_) #[true, true, true, true, true, true, true, true, true, false, false, false, false, false, false, false, false, false, false, false, false, false] rfl rfl (any_of HT_.out (by kernel_rfl)) (fun _ _ _ h => h) (Or.inr ⟨by rfl, rfl⟩) ?_ ?_
               rotate_left
               ·
                simp only [Act.put, List.setIfInBounds_toArray, List.set_cons_zero, List.set_cons_succ, i64_w, i32_w]
                rfl
               refine pure_ (i := 9) (N := some 82) (v := undef) (a' := ?_) #[true, true, true, true, true, true, true, true, true, true, false, false, false, false, false, false, false, false, false, false, false, false] rfl rfl (any_of HT_.out (by kernel_rfl)) (fun _ _ _ h => h) (Or.inr ⟨by rfl, rfl⟩) ?_ ?_
               rotate_left
               ·
                simp only [Act.put, List.setIfInBounds_toArray, List.set_cons_zero, List.set_cons_succ, i64_w, i32_w]
                rfl
               refine pure_ (i := 10) (N := some 83) (v := undef) (a' := ?_) #[true, true, true, true, true, true, true, true, true, true, true, false, false, false, false, false, false, false, false, false, false, false] rfl rfl (any_of HT_.out (by kernel_rfl)) (fun _ _ _ h => h) (Or.inr ⟨by rfl, rfl⟩) ?_ ?_
               rotate_left
               ·
                simp only [Act.put, List.setIfInBounds_toArray, List.set_cons_zero, List.set_cons_succ, i64_w, i32_w]
                rfl
               refine pure_ (i := 11) (N := some 84) (v := undef) (a' := ?_) #[true, true, true, true, true, true, true, true, true, true, true, true, false, false, false, false, false, false, false, false, false, false] rfl rfl (any_of HT_.out (by kernel_rfl)) (fun _ _ _ h => h) (Or.inr ⟨by rfl, rfl⟩) ?_ ?_
               rotate_left
               ·
                simp only [Act.put, List.setIfInBounds_toArray, List.set_cons_zero, List.set_cons_succ, i64_w, i32_w]
                rfl
               refine pure_ (i := 12) (N := some 85) (v := undef) (a' := ?_) #[true, true, true, true, true, true, true, true, true, true, true, true, true, false, false, false, false, false, false, false, false, false] rfl rfl (any_of HT_.out (by kernel_rfl)) (fun _ _ _ h => h) (Or.inr ⟨by rfl, rfl⟩) ?_ ?_
               rotate_left
               ·
                simp only [Act.put, List.setIfInBounds_toArray, List.set_cons_zero, List.set_cons_succ, i64_w, i32_w]
                rfl
               refine pure_ (i := 13) (N := some 86) (v := undef) (a' := ?_) #[true, true, true, true, true, true, true, true, true, true, true, true, true, true, false, false, false, false, false, false, false, false] rfl rfl (any_of HT_.out (by kernel_rfl)) (fun _ _ _ h => h) (Or.inr ⟨by rfl, rfl⟩) ?_ ?_
               rotate_left
               ·
                simp only [Act.put, List.setIfInBounds_toArray, List.set_cons_zero, List.set_cons_succ, i64_w, i32_w]
                rfl
               refine pure_ (i := 14) (N := some 87) (v := undef) (a' := ?_) #[true, true, true, true, true, true, true, true, true, true, true, true, true, true, true, false, false, false, false, false, false, false] rfl rfl (any_of HT_.out (by kernel_rfl)) (fun _ _ _ h => h) (Or.inr ⟨by rfl, rfl⟩) ?_ ?_
               rotate_left
               ·
                simp only [Act.put, List.setIfInBounds_toArray, List.set_cons_zero, List.set_cons_succ, i64_w, i32_w]
                rfl
               refine pure_ (i := 15) (N := some 88) (v := undef) (a' := ?_) #[true, true, true, true, true, true, true, true, true, true, true, true, true, true, true, true, false, false, false, false, false, false] rfl rfl (any_of HT_.out (by kernel_rfl)) (fun _ _ _ h => h) (Or.inr ⟨by rfl, rfl⟩) ?_ ?_
               rotate_left
               ·
                simp only [Act.put, List.setIfInBounds_toArray, List.set_cons_zero, List.set_cons_succ, i64_w, i32_w]
                rfl
               refine pure_ (i := 16) (N := some 89) (v := undef) (a' := ?_) #[true, true, true, true, true, true, true, true, true, true, true, true, true, true, true, true, true, false, false, false, false, false] rfl rfl (any_of HT_.out (by kernel_rfl)) (fun _ _ _ h => h) (Or.inr ⟨by rfl, rfl⟩) ?_ ?_
               rotate_left
               ·
                simp only [Act.put, List.setIfInBounds_toArray, List.set_cons_zero, List.set_cons_succ, i64_w, i32_w]
                rfl
               refine pure_ (i := 17) (N := some 90) (v := undef) (a' := ?_) #[true, true, true, true, true, true, true, true, true, true, true, true, true, true, true, true, true, true, false, false, false, false] rfl rfl (any_of HT_.out (by kernel_rfl)) (fun _ _ _ h => h) (Or.inr ⟨by rfl, rfl⟩) ?_ ?_
               rotate_left
               ·
                simp only [Act.put, List.setIfInBounds_toArray, List.set_cons_zero, List.set_cons_succ, i64_w, i32_w]
                rfl
               refine pure_ (i := 18) (N := some 91) (v := undef) (a' := ?_) #[true, true, true, true, true, true, true, true, true, true, true, true, true, true, true, true, true, true, true, false, false, false] rfl rfl (any_of HT_.out (by kernel_rfl)) (fun _ _ _ h => h) (Or.inr ⟨by rfl, rfl⟩) ?_ ?_
               rotate_left
               ·
                simp only [Act.put, List.setIfInBounds_toArray, List.set_cons_zero, List.set_cons_succ, i64_w, i32_w]
                rfl
               refine pure_ (i := 19) (N := some 92) (v := undef) (a' := ?_) #[true, true, true, true, true, true, true, true, true, true, true, true, true, true, true, true, true, true, true, true, false, false] rfl rfl (any_of HT_.out (by kernel_rfl)) (fun _ _ _ h => h) (Or.inr ⟨by rfl, rfl⟩) ?_ ?_
               rotate_left
               ·
                simp only [Act.put, List.setIfInBounds_toArray, List.set_cons_zero, List.set_cons_succ, i64_w, i32_w]
                rfl
               refine pure_ (i := 20) (N := some 93) (v := ?_) (a' := ?_) #[true, true, true, true, true, true, true, true, true, true, true, true, true, true, true, true, true, true, true, true, true, false] rfl rfl (any_of HT_.out (by kernel_rfl)) (fun _ _ _ h => h) (Or.inl ⟨by rfl, ?_⟩) ?_ ?_
               rotate_left
               ·
                intro w'
                go_simp
                with_reducible rfl
               rotate_left
               ·
                simp only [Act.put, List.setIfInBounds_toArray, List.set_cons_zero, List.set_cons_succ, i64_w, i32_w]
                rfl
               refine pure_ (i := 21) (N := some 4) (v := ?_) (a' := ?_) #[true, true, true, true, true, true, true, true, true, true, true, true, true, true, true, true, true, true, true, true, true, true] rfl rfl (any_of HT_.out (by kernel_rfl)) (fun _ _ _ h => h) (Or.inl ⟨by rfl, ?_⟩) ?_ ?_
               rotate_left
               ·
                intro w'
                go_simp
                with_reducible rfl
               rotate_left
               ·
                simp only [Act.put, List.setIfInBounds_toArray, List.set_cons_zero, List.set_cons_succ, i64_w, i32_w]
                rfl
               refine done_ (done_of HT_.out (by kernel_rfl)) ?_
               try go_wp2
               go_ret
               exact ⟨by first | rfl | (simp [errW_none, errW_some] <;> rfl) | (simp [*, errW_none, errW_some] <;> rfl), by repeat (first | (with_reducible first | exact HB.out | apply bA | apply bN | apply bD | refine bS ?_ GE339.out | refine bS ?_ GE344.out) | exact HB.out)⟩
             ·
              rw [if_neg c21] at H
              have c21b0 : decide (((rd_T49 l0_11 x7_2).f2) ≤ (wrap64 ((l0_5.length : Int) - ((rd_T49 l0_11 x7_2).f1)))) = false := decide_eq_false c21
              clear c21
              have H' := mK H
              clear H
              have hcz43_0 : wr.cell? ⟨gb339, 0, none⟩ = some (.int .u32 a0_0) := (kC BK339.out 0).trans rfl
              have hcz43_1 : wr.cell? ⟨gb339, 1, none⟩ = some (.int .u32 a0_1) := (kC BK339.out 1).trans rfl
              have hcz43_2 : wr.cell? ⟨gb339, 2, none⟩ = some (.int .u32 a0_2) := (kC BK339.out 2).trans rfl
              have hcz43_3 : wr.cell? ⟨gb339, 3, none⟩ = some (.int .u32 a0_3) := (kC BK339.out 3).trans rfl
              have hcz43_4 : wr.cell? ⟨gb339, 4, none⟩ = some (.int .u32 a0_4) := (kC BK339.out 4).trans rfl
              have hcz43_5 : wr.cell? ⟨gb339, 5, none⟩ = some (.slice A0_5 l0_5.length c0_5) := (kC BK339.out 5).trans rfl
              have hcz43_6 : wr.cell? ⟨gb339, 6, none⟩ = some (.slice A0_6 l0_6.length c0_6) := (kC BK339.out 6).trans rfl
              have hcz43_7 : wr.cell? ⟨gb339, 7, none⟩ = some (.int .u32 a0_7) := (kC BK339.out 7).trans rfl
              have hcz43_8 : wr.cell? ⟨gb339, 8, none⟩ = some (.int .u32 a0_8) := (kC BK339.out 8).trans rfl
              have hcz43_9 : wr.cell? ⟨gb339, 9, none⟩ = some (.int .u32 a0_9) := (kC BK339.out 9).trans rfl
              have hcz43_10 : wr.cell? ⟨gb339, 10, none⟩ = some (.int .u32 a0_10) := (kC BK339.out 10).trans rfl
              have hcz43_11 : wr.cell? ⟨gb339, 11, none⟩ = some (.slice A0_11 l0_11.length c0_11) := (kC BK339.out 11).trans rfl
              have hfz43_0 := kF BK339.out 0
              have hfz43_1 := kF BK339.out 1
              have hfz43_2 := kF BK339.out 2
              have hfz43_3 := kF BK339.out 3
              have hfz43_4 := kF BK339.out 4
              have hfz43_5 := kF BK339.out 5
              have hfz43_6 := kF BK339.out 6
              have hfz43_7 := kF BK339.out 7
              have hfz43_8 := kF BK339.out 8
              have hfz43_9 := kF BK339.out 9
              have hfz43_10 := kF BK339.out 10
              have hfz43_11 := kF BK339.out 11
              have p343 : 0 ≤ (x7_2 : Int) := of_decide_eq_true (by first | (with_reducible assumption) | assumption)
              have q343 : x7_2 < (l0_11.length : Int) := of_decide_eq_true (by first | (with_reducible assumption) | assumption)
              obtain ⟨ad343, e343, hx343_0, hx343_1, hx343_2, hx343_3, hx343_4⟩ := at_T49 HR0_11.out x7_2 p343 q343
              cases e343
              replace hx343_0 := (HB.out.cell (World.block_lt_of_cell? w _ hx343_0)).trans hx343_0
              replace hx343_1 := (HB.out.cell (World.block_lt_of_cell? w _ hx343_1)).trans hx343_1
              replace hx343_2 := (HB.out.cell (World.block_lt_of_cell? w _ hx343_2)).trans hx343_2
              replace hx343_3 := (HB.out.cell (World.block_lt_of_cell? w _ hx343_3)).trans hx343_3
              replace hx343_4 := (HB.out.cell (World.block_lt_of_cell? w _ hx343_4)).trans hx343_4
              replace p343 := eq_true p343
              replace q343 := eq_true q343
              go_wp2_with (first | ((with_reducible refine gate_dst (N := 8) rfl ?_); (try (refine gate_guard (by rfl) ?_; dsimp only)); refine box_event ?hg (N := 8) ?hd (cs := #[.string (⟨#[]⟩ : ByteArray), .int .i64 0, .int .i64 0, .int .i64 0, .int .i64 0]) (t := 49) ?hr ?_; (case hd => rfl); (case hg => rfl); (case hr => first | (go_simp; done) | (go_simp; rfl)); intro gb344 hg w44 hbox hb; have n0_ := mK (kB (g := gb339) (o := .cells #[.int .u32 a0_0, .int .u32 a0_1, .int .u32 a0_2, .int .u32 a0_3, .int .u32 a0_4, .slice A0_5 l0_5.length c0_5, .slice A0_6 l0_6.length c0_6, .int .u32 a0_7, .int .u32 a0_8, .int .u32 a0_9, .int .u32 a0_10, .slice (some ad343) l0_11.length c0_11] 40 (0, 0)) (by (with_reducible repeat (first | refine kN ?_ _ | refine kD ?_ | refine kA ?_ _)); exact BK339.out) hb); have n1_ := mK (bP (by repeat (first | (with_reducible first | exact HB.out | apply bA | apply bN | apply bD | refine bS ?_ GE339.out) | exact HB.out)) hb); have n2_ := mK (hbox); have n3_ := mK ((by rw [hg]; exact (bZ (by repeat (first | (with_reducible first | exact HB.out | apply bA | apply bN | apply bD | refine bS ?_ GE339.out) | exact HB.out))) : w.heap.size ≤ gb344)); have n4_ := mK ((by rw [hg]; exact (bZ (by repeat (first | (with_reducible first | exact HB.out | apply bA | apply bN | apply bD | refine bS ?_ GE339.out) | exact HB.out))) : w.heap.size ≤ gb344)); have n5_ := mK ((by rw [hg]; exact Nat.ne_of_lt (blk_lt (g := gb339) (o := .cells #[.int .u32 a0_0, .int .u32 a0_1, .int .u32 a0_2, .int .u32 a0_3, .int .u32 a0_4, .slice A0_5 l0_5.length c0_5, .slice A0_6 l0_6.length c0_6, .int .u32 a0_7, .int .u32 a0_8, .int .u32 a0_9, .int .u32 a0_10, .slice (some ad343) l0_11.length c0_11] 40 (0, 0)) (by (with_reducible repeat (first | refine kN ?_ _ | refine kD ?_ | refine kA ?_ _)); exact BK339.out)) : gb339 ≠ gb344)); have n6_ := mK ((by rw [hg]; exact Nat.ne_of_gt (blk_lt (g := gb339) (o := .cells #[.int .u32 a0_0, .int .u32 a0_1, .int .u32 a0_2, .int .u32 a0_3, .int .u32 a0_4, .slice A0_5 l0_5.length c0_5, .slice A0_6 l0_6.length c0_6, .int .u32 a0_7, .int .u32 a0_8, .int .u32 a0_9, .int .u32 a0_10, .slice (some ad343) l0_11.length c0_11] 40 (0, 0)) (by (with_reducible repeat (first | refine kN ?_ _ | refine kD ?_ | refine kA ?_ _)); exact BK339.out)) : gb344 ≠ gb339)); clear BK339; clear HB; have BK339 := n0_; have HB := n1_; have BK344 := n2_; have GW344 := n3_; have GE344 := n4_; have NB339_344 := n5_; have NB344_339 := n6_; clear n0_ n1_ n2_ n3_ n4_ n5_ n6_; clear hb hbox hg; have hnb45 := NB344_339.out; have hnc45 := NB339_344.out; obtain ⟨hcz46_0, hcz46_1, hcz46_2, hcz46_3, hcz46_4, hfz46_0, hfz46_1, hfz46_2, hfz46_3, hfz46_4⟩ := cf5 BK344.out; have hcz47_0 : w44.cell? ⟨gb339, 0, none⟩ = some (.int .u32 a0_0) := (kC BK339.out 0).trans rfl; have hcz47_1 : w44.cell? ⟨gb339, 1, none⟩ = some (.int .u32 a0_1) := (kC BK339.out 1).trans rfl; have hcz47_2 : w44.cell? ⟨gb339, 2, none⟩ = some (.int .u32 a0_2) := (kC BK339.out 2).trans rfl; have hcz47_3 : w44.cell? ⟨gb339, 3, none⟩ = some (.int .u32 a0_3) := (kC BK339.out 3).trans rfl; have hcz47_4 : w44.cell? ⟨gb339, 4, none⟩ = some (.int .u32 a0_4) := (kC BK339.out 4).trans rfl; have hcz47_5 : w44.cell? ⟨gb339, 5, none⟩ = some (.slice A0_5 l0_5.length c0_5) := (kC BK339.out 5).trans rfl; have hcz47_6 : w44.cell? ⟨gb339, 6, none⟩ = some (.slice A0_6 l0_6.length c0_6) := (kC BK339.out 6).trans rfl; have hcz47_7 : w44.cell? ⟨gb339, 7, none⟩ = some (.int .u32 a0_7) := (kC BK339.out 7).trans rfl; have hcz47_8 : w44.cell? ⟨gb339, 8, none⟩ = some (.int .u32 a0_8) := (kC BK339.out 8).trans rfl; have hcz47_9 : w44.cell? ⟨gb339, 9, none⟩ = some (.int .u32 a0_9) := (kC BK339.out 9).trans rfl; have hcz47_10 : w44.cell? ⟨gb339, 10, none⟩ = some (.int .u32 a0_10) := (kC BK339.out 10).trans rfl; have hcz47_11 : w44.cell? ⟨gb339, 11, none⟩ = some (.slice (some ad343) l0_11.length c0_11) := (kC BK339.out 11).trans rfl; have hfz47_0 := kF BK339.out 0; have hfz47_1 := kF BK339.out 1; have hfz47_2 := kF BK339.out 2; have hfz47_3 := kF BK339.out 3; have hfz47_4 := kF BK339.out 4; have hfz47_5 := kF BK339.out 5; have hfz47_6 := kF BK339.out 6; have hfz47_7 := kF BK339.out 7; have hfz47_8 := kF BK339.out 8; have hfz47_9 := kF BK339.out 9; have hfz47_10 := kF BK339.out 10; have hfz47_11 := kF BK339.out 11))
              go_roundg k2
              case measure => have := HJ4.out; have := HK2.out; omega
              case rel => exact ⟨(wrap64 (x7_2 + 1)), (by first | rfl | (simp; done) | (simp [*]; done)), H', ⟨by have := HJ4.out; have := HK2.out; omega⟩, ⟨by (with_reducible repeat (first | refine kN ?_ _ | refine kD ?_ | refine kA ?_ _)); refine kR ?_ NB339_344.out _; (with_reducible repeat (first | refine kN ?_ _ | refine kD ?_ | refine kA ?_ _)); refine kR ?_ NB339_344.out _; (with_reducible repeat (first | refine kN ?_ _ | refine kD ?_ | refine kA ?_ _)); refine kR ?_ NB339_344.out _; (with_reducible repeat (first | refine kN ?_ _ | refine kD ?_ | refine kA ?_ _)); refine kR ?_ NB339_344.out _; (with_reducible repeat (first | refine kN ?_ _ | refine kD ?_ | refine kA ?_ _)); refine kR ?_ NB339_344.out _; (with_reducible repeat (first | refine kN ?_ _ | refine kD ?_ | refine kA ?_ _)); exact BK339.out⟩, ⟨by repeat (first | (with_reducible first | exact HB.out | apply bA | apply bN | apply bD | refine bS ?_ GE339.out | refine bS ?_ GE344.out) | exact HB.out)⟩⟩
            ·
             rw [if_neg c20] at H
             have c20b0 : decide (((rd_T49 l0_11 x7_2).f1) ≤ (l0_5.length : Int)) = false := decide_eq_false c20
             clear c20
             have H' := mK H
             clear H
             have hcz48_0 : wr.cell? ⟨gb339, 0, none⟩ = some (.int .u32 a0_0) := (kC BK339.out 0).trans rfl
             have hcz48_1 : wr.cell? ⟨gb339, 1, none⟩ = some (.int .u32 a0_1) := (kC BK339.out 1).trans rfl
             have hcz48_2 : wr.cell? ⟨gb339, 2, none⟩ = some (.int .u32 a0_2) := (kC BK339.out 2).trans rfl
             have hcz48_3 : wr.cell? ⟨gb339, 3, none⟩ = some (.int .u32 a0_3) := (kC BK339.out 3).trans rfl
             have hcz48_4 : wr.cell? ⟨gb339, 4, none⟩ = some (.int .u32 a0_4) := (kC BK339.out 4).trans rfl
             have hcz48_5 : wr.cell? ⟨gb339, 5, none⟩ = some (.slice A0_5 l0_5.length c0_5) := (kC BK339.out 5).trans rfl
             have hcz48_6 : wr.cell? ⟨gb339, 6, none⟩ = some (.slice A0_6 l0_6.length c0_6) := (kC BK339.out 6).trans rfl
             have hcz48_7 : wr.cell? ⟨gb339, 7, none⟩ = some (.int .u32 a0_7) := (kC BK339.out 7).trans rfl
             have hcz48_8 : wr.cell? ⟨gb339, 8, none⟩ = some (.int .u32 a0_8) := (kC BK339.out 8).trans rfl
             have hcz48_9 : wr.cell? ⟨gb339, 9, none⟩ = some (.int .u32 a0_9) := (kC BK339.out 9).trans rfl
             have hcz48_10 : wr.cell? ⟨gb339, 10, none⟩ = some (.int .u32 a0_10) := (kC BK339.out 10).trans rfl
             have hcz48_11 : wr.cell? ⟨gb339, 11, none⟩ = some (.slice A0_11 l0_11.length c0_11) := (kC BK339.out 11).trans rfl
             have hfz48_0 := kF BK339.out 0
             have hfz48_1 := kF BK339.out 1
             have hfz48_2 := kF BK339.out 2
             have hfz48_3 := kF BK339.out 3
             have hfz48_4 := kF BK339.out 4
             have hfz48_5 := kF BK339.out 5
             have hfz48_6 := kF BK339.out 6
             have hfz48_7 := kF BK339.out 7
             have hfz48_8 := kF BK339.out 8
             have hfz48_9 := kF BK339.out 9
             have hfz48_10 := kF BK339.out 10
             have hfz48_11 := kF BK339.out 11
             have p343 : 0 ≤ (x7_2 : Int) := of_decide_eq_true (by first | (with_reducible assumption) | assumption)
             have q343 : x7_2 < (l0_11.length : Int) := of_decide_eq_true (by first | (with_reducible assumption) | assumption)
             obtain ⟨ad343, e343, hx343_0, hx343_1, hx343_2, hx343_3, hx343_4⟩ := at_T49 HR0_11.out x7_2 p343 q343
             cases e343
             replace hx343_0 := (HB.out.cell (World.block_lt_of_cell? w _ hx343_0)).trans hx343_0
             replace hx343_1 := (HB.out.cell (World.block_lt_of_cell? w _ hx343_1)).trans hx343_1
             replace hx343_2 := (HB.out.cell (World.block_lt_of_cell? w _ hx343_2)).trans hx343_2
             replace hx343_3 := (HB.out.cell (World.block_lt_of_cell? w _ hx343_3)).trans hx343_3
             replace hx343_4 := (HB.out.cell (World.block_lt_of_cell? w _ hx343_4)).trans hx343_4
             replace p343 := eq_true p343
             replace q343 := eq_true q343
             go_wp2_with (first | ((with_reducible refine gate_dst (N := 8) rfl ?_); (try (refine gate_guard (by rfl) ?_; dsimp only)); refine box_event ?hg (N := 8) ?hd (cs := #[.string (⟨#[]⟩ : ByteArray), .int .i64 0, .int .i64 0, .int .i64 0, .int .i64 0]) (t := 49) ?hr ?_; (case hd => rfl); (case hg => rfl); (case hr => first | (go_simp; done) | (go_simp; rfl)); intro gb344 hg w49 hbox hb; have n0_ := mK (kB (g := gb339) (o := .cells #[.int .u32 a0_0, .int .u32 a0_1, .int .u32 a0_2, .int .u32 a0_3, .int .u32 a0_4, .slice A0_5 l0_5.length c0_5, .slice A0_6 l0_6.length c0_6, .int .u32 a0_7, .int .u32 a0_8, .int .u32 a0_9, .int .u32 a0_10, .slice (some ad343) l0_11.length c0_11] 40 (0, 0)) (by (with_reducible repeat (first | refine kN ?_ _ | refine kD ?_ | refine kA ?_ _)); exact BK339.out) hb); have n1_ := mK (bP (by repeat (first | (with_reducible first | exact HB.out | apply bA | apply bN | apply bD | refine bS ?_ GE339.out) | exact HB.out)) hb); have n2_ := mK (hbox); have n3_ := mK ((by rw [hg]; exact (bZ (by repeat (first | (with_reducible first | exact HB.out | apply bA | apply bN | apply bD | refine bS ?_ GE339.out) | exact HB.out))) : w.heap.size ≤ gb344)); have n4_ := mK ((by rw [hg]; exact (bZ (by repeat (first | (with_reducible first | exact HB.out | apply bA | apply bN | apply bD | refine bS ?_ GE339.out) | exact HB.out))) : w.heap.size ≤ gb344)); have n5_ := mK ((by rw [hg]; exact Nat.ne_of_lt (blk_lt (g := gb339) (o := .cells #[.int .u32 a0_0, .int .u32 a0_1, .int .u32 a0_2, .int .u32 a0_3, .int .u32 a0_4, .slice A0_5 l0_5.length c0_5, .slice A0_6 l0_6.length c0_6, .int .u32 a0_7, .int .u32 a0_8, .int .u32 a0_9, .int .u32 a0_10, .slice (some ad343) l0_11.length c0_11] 40 (0, 0)) (by (with_reducible repeat (first | refine kN ?_ _ | refine kD ?_ | refine kA ?_ _)); exact BK339.out)) : gb339 ≠ gb344)); have n6_ := mK ((by rw [hg]; exact Nat.ne_of_gt (blk_lt (g := gb339) (o := .cells #[.int .u32 a0_0, .int .u32 a0_1, .int .u32 a0_2, .int .u32 a0_3, .int .u32 a0_4, .slice A0_5 l0_5.length c0_5, .slice A0_6 l0_6.length c0_6, .int .u32 a0_7, .int .u32 a0_8, .int .u32 a0_9, .int .u32 a0_10, .slice (some ad343) l0_11.length c0_11] 40 (0, 0)) (by (with_reducible repeat (first | refine kN ?_ _ | refine kD ?_ | refine kA ?_ _)); exact BK339.out)) : gb344 ≠ gb339)); clear BK339; clear HB; have BK339 := n0_; have HB := n1_; have BK344 := n2_; have GW344 := n3_; have GE344 := n4_; have NB339_344 := n5_; have NB344_339 := n6_; clear n0_ n1_ n2_ n3_ n4_ n5_ n6_; clear hb hbox hg; have hnb50 := NB344_339.out; have hnc50 := NB339_344.out; obtain ⟨hcz51_0, hcz51_1, hcz51_2, hcz51_3, hcz51_4, hfz51_0, hfz51_1, hfz51_2, hfz51_3, hfz51_4⟩ := cf5 BK344.out; have hcz52_0 : w49.cell? ⟨gb339, 0, none⟩ = some (.int .u32 a0_0) := (kC BK339.out 0).trans rfl; have hcz52_1 : w49.cell? ⟨gb339, 1, none⟩ = some (.int .u32 a0_1) := (kC BK339.out 1).trans rfl; have hcz52_2 : w49.cell? ⟨gb339, 2, none⟩ = some (.int .u32 a0_2) := (kC BK339.out 2).trans rfl; have hcz52_3 : w49.cell? ⟨gb339, 3, none⟩ = some (.int .u32 a0_3) := (kC BK339.out 3).trans rfl; have hcz52_4 : w49.cell? ⟨gb339, 4, none⟩ = some (.int .u32 a0_4) := (kC BK339.out 4).trans rfl; have hcz52_5 : w49.cell? ⟨gb339, 5, none⟩ = some (.slice A0_5 l0_5.length c0_5) := (kC BK339.out 5).trans rfl; have hcz52_6 : w49.cell? ⟨gb339, 6, none⟩ = some (.slice A0_6 l0_6.length c0_6) := (kC BK339.out 6).trans rfl; have hcz52_7 : w49.cell? ⟨gb339, 7, none⟩ = some (.int .u32 a0_7) := (kC BK339.out 7).trans rfl; have hcz52_8 : w49.cell? ⟨gb339, 8, none⟩ = some (.int .u32 a0_8) := (kC BK339.out 8).trans rfl; have hcz52_9 : w49.cell? ⟨gb339, 9, none⟩ = some (.int .u32 a0_9) := (kC BK339.out 9).trans rfl; have hcz52_10 : w49.cell? ⟨gb339, 10, none⟩ = some (.int .u32 a0_10) := (kC BK339.out 10).trans rfl; have hcz52_11 : w49.cell? ⟨gb339, 11, none⟩ = some (.slice (some ad343) l0_11.length c0_11) := (kC BK339.out 11).trans rfl; have hfz52_0 := kF BK339.out 0; have hfz52_1 := kF BK339.out 1; have hfz52_2 := kF BK339.out 2; have hfz52_3 := kF BK339.out 3; have hfz52_4 := kF BK339.out 4; have hfz52_5 := kF BK339.out 5; have hfz52_6 := kF BK339.out 6; have hfz52_7 := kF BK339.out 7; have hfz52_8 := kF BK339.out 8; have hfz52_9 := kF BK339.out 9; have hfz52_10 := kF BK339.out 10; have hfz52_11 := kF BK339.out 11))
             go_roundg k2
             case measure => have := HJ4.out; have := HK2.out; omega
             case rel => exact ⟨(wrap64 (x7_2 + 1)), (by first | rfl | (simp; done) | (simp [*]; done)), H', ⟨by have := HJ4.out; have := HK2.out; omega⟩, ⟨by (with_reducible repeat (first | refine kN ?_ _ | refine kD ?_ | refine kA ?_ _)); refine kR ?_ NB339_344.out _; (with_reducible repeat (first | refine kN ?_ _ | refine kD ?_ | refine kA ?_ _)); refine kR ?_ NB339_344.out _; (with_reducible repeat (first | refine kN ?_ _ | refine kD ?_ | refine kA ?_ _)); refine kR ?_ NB339_344.out _; (with_reducible repeat (first | refine kN ?_ _ | refine kD ?_ | refine kA ?_ _)); refine kR ?_ NB339_344.out _; (with_reducible repeat (first | refine kN ?_ _ | refine kD ?_ | refine kA ?_ _)); refine kR ?_ NB339_344.out _; (with_reducible repeat (first | refine kN ?_ _ | refine kD ?_ | refine kA ?_ _)); exact BK339.out⟩, ⟨by repeat (first | (with_reducible first | exact HB.out | apply bA | apply bN | apply bD | refine bS ?_ GE339.out | refine bS ?_ GE344.out) | exact HB.out)⟩⟩
           ·
            rw [if_neg c19] at H
            have c19b0 : decide (0 ≤ ((rd_T49 l0_11 x7_2).f2)) = false := decide_eq_false c19
            clear c19
            have H' := mK H
            clear H
            have hcz53_0 : wr.cell? ⟨gb339, 0, none⟩ = some (.int .u32 a0_0) := (kC BK339.out 0).trans rfl
            have hcz53_1 : wr.cell? ⟨gb339, 1, none⟩ = some (.int .u32 a0_1) := (kC BK339.out 1).trans rfl
            have hcz53_2 : wr.cell? ⟨gb339, 2, none⟩ = some (.int .u32 a0_2) := (kC BK339.out 2).trans rfl
            have hcz53_3 : wr.cell? ⟨gb339, 3, none⟩ = some (.int .u32 a0_3) := (kC BK339.out 3).trans rfl
            have hcz53_4 : wr.cell? ⟨gb339, 4, none⟩ = some (.int .u32 a0_4) := (kC BK339.out 4).trans rfl
            have hcz53_5 : wr.cell? ⟨gb339, 5, none⟩ = some (.slice A0_5 l0_5.length c0_5) := (kC BK339.out 5).trans rfl
            have hcz53_6 : wr.cell? ⟨gb339, 6, none⟩ = some (.slice A0_6 l0_6.length c0_6) := (kC BK339.out 6).trans rfl
            have hcz53_7 : wr.cell? ⟨gb339, 7, none⟩ = some (.int .u32 a0_7) := (kC BK339.out 7).trans rfl
            have hcz53_8 : wr.cell? ⟨gb339, 8, none⟩ = some (.int .u32 a0_8) := (kC BK339.out 8).trans rfl
            have hcz53_9 : wr.cell? ⟨gb339, 9, none⟩ = some (.int .u32 a0_9) := (kC BK339.out 9).trans rfl
            have hcz53_10 : wr.cell? ⟨gb339, 10, none⟩ = some (.int .u32 a0_10) := (kC BK339.out 10).trans rfl
            have hcz53_11 : wr.cell? ⟨gb339, 11, none⟩ = some (.slice A0_11 l0_11.length c0_11) := (kC BK339.out 11).trans rfl
            have hfz53_0 := kF BK339.out 0
            have hfz53_1 := kF BK339.out 1
            have hfz53_2 := kF BK339.out 2
            have hfz53_3 := kF BK339.out 3
            have hfz53_4 := kF BK339.out 4
            have hfz53_5 := kF BK339.out 5
            have hfz53_6 := kF BK339.out 6
            have hfz53_7 := kF BK339.out 7
            have hfz53_8 := kF BK339.out 8
            have hfz53_9 := kF BK339.out 9
            have hfz53_10 := kF BK339.out 10
            have hfz53_11 := kF BK339.out 11
            have p343 : 0 ≤ (x7_2 : Int) := of_decide_eq_true (by first | (with_reducible assumption) | assumption)
            have q343 : x7_2 < (l0_11.length : Int) := of_decide_eq_true (by first | (with_reducible assumption) | assumption)
            obtain ⟨ad343, e343, hx343_0, hx343_1, hx343_2, hx343_3, hx343_4⟩ := at_T49 HR0_11.out x7_2 p343 q343
            cases e343
            replace hx343_0 := (HB.out.cell (World.block_lt_of_cell? w _ hx343_0)).trans hx343_0
            replace hx343_1 := (HB.out.cell (World.block_lt_of_cell? w _ hx343_1)).trans hx343_1
            replace hx343_2 := (HB.out.cell (World.block_lt_of_cell? w _ hx343_2)).trans hx343_2
            replace hx343_3 := (HB.out.cell (World.block_lt_of_cell? w _ hx343_3)).trans hx343_3
            replace hx343_4 := (HB.out.cell (World.block_lt_of_cell? w _ hx343_4)).trans hx343_4
            replace p343 := eq_true p343
            replace q343 := eq_true q343
            go_wp2_with (first | ((with_reducible refine gate_dst (N := 8) rfl ?_); (try (refine gate_guard (by rfl) ?_; dsimp only)); refine box_event ?hg (N := 8) ?hd (cs := #[.string (⟨#[]⟩ : ByteArray), .int .i64 0, .int .i64 0, .int .i64 0, .int .i64 0]) (t := 49) ?hr ?_; (case hd => rfl); (case hg => rfl); (case hr => first | (go_simp; done) | (go_simp; rfl)); intro gb344 hg w54 hbox hb; have n0_ := mK (kB (g := gb339) (o := .cells #[.int .u32 a0_0, .int .u32 a0_1, .int .u32 a0_2, .int .u32 a0_3, .int .u32 a0_4, .slice A0_5 l0_5.length c0_5, .slice A0_6 l0_6.length c0_6, .int .u32 a0_7, .int .u32 a0_8, .int .u32 a0_9, .int .u32 a0_10, .slice (some ad343) l0_11.length c0_11] 40 (0, 0)) (by (with_reducible repeat (first | refine kN ?_ _ | refine kD ?_ | refine kA ?_ _)); exact BK339.out) hb); have n1_ := mK (bP (by repeat (first | (with_reducible first | exact HB.out | apply bA | apply bN | apply bD | refine bS ?_ GE339.out) | exact HB.out)) hb); have n2_ := mK (hbox); have n3_ := mK ((by rw [hg]; exact (bZ (by repeat (first | (with_reducible first | exact HB.out | apply bA | apply bN | apply bD | refine bS ?_ GE339.out) | exact HB.out))) : w.heap.size ≤ gb344)); have n4_ := mK ((by rw [hg]; exact (bZ (by repeat (first | (with_reducible first | exact HB.out | apply bA | apply bN | apply bD | refine bS ?_ GE339.out) | exact HB.out))) : w.heap.size ≤ gb344)); have n5_ := mK ((by rw [hg]; exact Nat.ne_of_lt (blk_lt (g := gb339) (o := .cells #[.int .u32 a0_0, .int .u32 a0_1, .int .u32 a0_2, .int .u32 a0_3, .int .u32 a0_4, .slice A0_5 l0_5.length c0_5, .slice A0_6 l0_6.length c0_6, .int .u32 a0_7, .int .u32 a0_8, .int .u32 a0_9, .int .u32 a0_10, .slice (some ad343) l0_11.length c0_11] 40 (0, 0)) (by (with_reducible repeat (first | refine kN ?_ _ | refine kD ?_ | refine kA ?_ _)); exact BK339.out)) : gb339 ≠ gb344)); have n6_ := mK ((by rw [hg]; exact Nat.ne_of_gt (blk_lt (g := gb339) (o := .cells #[.int .u32 a0_0, .int .u32 a0_1, .int .u32 a0_2, .int .u32 a0_3, .int .u32 a0_4, .slice A0_5 l0_5.length c0_5, .slice A0_6 l0_6.length c0_6, .int .u32 a0_7, .int .u32 a0_8, .int .u32 a0_9, .int .u32 a0_10, .slice (some ad343) l0_11.length c0_11] 40 (0, 0)) (by (with_reducible repeat (first | refine kN ?_ _ | refine kD ?_ | refine kA ?_ _)); exact BK339.out)) : gb344 ≠ gb339)); clear BK339; clear HB; have BK339 := n0_; have HB := n1_; have BK344 := n2_; have GW344 := n3_; have GE344 := n4_; have NB339_344 := n5_; have NB344_339 := n6_; clear n0_ n1_ n2_ n3_ n4_ n5_ n6_; clear hb hbox hg; have hnb55 := NB344_339.out; have hnc55 := NB339_344.out; obtain ⟨hcz56_0, hcz56_1, hcz56_2, hcz56_3, hcz56_4, hfz56_0, hfz56_1, hfz56_2, hfz56_3, hfz56_4⟩ := cf5 BK344.out))
            go_roundg k2
            case measure => have := HJ4.out; have := HK2.out; omega
            case rel => exact ⟨(wrap64 (x7_2 + 1)), (by first | rfl | (simp; done) | (simp [*]; done)), H', ⟨by have := HJ4.out; have := HK2.out; omega⟩, ⟨by (with_reducible repeat (first | refine kN ?_ _ | refine kD ?_ | refine kA ?_ _)); refine kR ?_ NB339_344.out _; (with_reducible repeat (first | refine kN ?_ _ | refine kD ?_ | refine kA ?_ _)); refine kR ?_ NB339_344.out _; (with_reducible repeat (first | refine kN ?_ _ | refine kD ?_ | refine kA ?_ _)); refine kR ?_ NB339_344.out _; (with_reducible repeat (first | refine kN ?_ _ | refine kD ?_ | refine kA ?_ _)); refine kR ?_ NB339_344.out _; (with_reducible repeat (first | refine kN ?_ _ | refine kD ?_ | refine kA ?_ _)); refine kR ?_ NB339_344.out _; (with_reducible repeat (first | refine kN ?_ _ | refine kD ?_ | refine kA ?_ _)); exact BK339.out⟩, ⟨by repeat (first | (with_reducible first | exact HB.out | apply bA | apply bN | apply bD | refine bS ?_ GE339.out | refine bS ?_ GE344.out) | exact HB.out)⟩⟩
          ·
           rw [if_neg c18] at H
           have c18b0 : decide (0 ≤ ((rd_T49 l0_11 x7_2).f1)) = false := decide_eq_false c18
           clear c18
           have H' := mK H
           clear H
           have hcz57_0 : wr.cell? ⟨gb339, 0, none⟩ = some (.int .u32 a0_0) := (kC BK339.out 0).trans rfl
           have hcz57_1 : wr.cell? ⟨gb339, 1, none⟩ = some (.int .u32 a0_1) := (kC BK339.out 1).trans rfl
           have hcz57_2 : wr.cell? ⟨gb339, 2, none⟩ = some (.int .u32 a0_2) := (kC BK339.out 2).trans rfl
           have hcz57_3 : wr.cell? ⟨gb339, 3, none⟩ = some (.int .u32 a0_3) := (kC BK339.out 3).trans rfl
           have hcz57_4 : wr.cell? ⟨gb339, 4, none⟩ = some (.int .u32 a0_4) := (kC BK339.out 4).trans rfl
           have hcz57_5 : wr.cell? ⟨gb339, 5, none⟩ = some (.slice A0_5 l0_5.length c0_5) := (kC BK339.out 5).trans rfl
           have hcz57_6 : wr.cell? ⟨gb339, 6, none⟩ = some (.slice A0_6 l0_6.length c0_6) := (kC BK339.out 6).trans rfl
           have hcz57_7 : wr.cell? ⟨gb339, 7, none⟩ = some (.int .u32 a0_7) := (kC BK339.out 7).trans rfl
           have hcz57_8 : wr.cell? ⟨gb339, 8, none⟩ = some (.int .u32 a0_8) := (kC BK339.out 8).trans rfl
           have hcz57_9 : wr.cell? ⟨gb339, 9, none⟩ = some (.int .u32 a0_9) := (kC BK339.out 9).trans rfl
           have hcz57_10 : wr.cell? ⟨gb339, 10, none⟩ = some (.int .u32 a0_10) := (kC BK339.out 10).trans rfl
           have hcz57_11 : wr.cell? ⟨gb339, 11, none⟩ = some (.slice A0_11 l0_11.length c0_11) := (kC BK339.out 11).trans rfl
           have hfz57_0 := kF BK339.out 0
           have hfz57_1 := kF BK339.out 1
           have hfz57_2 := kF BK339.out 2
           have hfz57_3 := kF BK339.out 3
           have hfz57_4 := kF BK339.out 4
           have hfz57_5 := kF BK339.out 5
           have hfz57_6 := kF BK339.out 6
           have hfz57_7 := kF BK339.out 7
           have hfz57_8 := kF BK339.out 8
           have hfz57_9 := kF BK339.out 9
           have hfz57_10 := kF BK339.out 10
           have hfz57_11 := kF BK339.out 11
           have p343 : 0 ≤ (x7_2 : Int) := of_decide_eq_true (by first | (with_reducible assumption) | assumption)
           have q343 : x7_2 < (l0_11.length : Int) := of_decide_eq_true (by first | (with_reducible assumption) | assumption)
           obtain ⟨ad343, e343, hx343_0, hx343_1, hx343_2, hx343_3, hx343_4⟩ := at_T49 HR0_11.out x7_2 p343 q343
           cases e343
           replace hx343_0 := (HB.out.cell (World.block_lt_of_cell? w _ hx343_0)).trans hx343_0
           replace hx343_1 := (HB.out.cell (World.block_lt_of_cell? w _ hx343_1)).trans hx343_1
           replace hx343_2 := (HB.out.cell (World.block_lt_of_cell? w _ hx343_2)).trans hx343_2
           replace hx343_3 := (HB.out.cell (World.block_lt_of_cell? w _ hx343_3)).trans hx343_3
           replace hx343_4 := (HB.out.cell (World.block_lt_of_cell? w _ hx343_4)).trans hx343_4
           replace p343 := eq_true p343
           replace q343 := eq_true q343
           go_wp2_with (first | ((with_reducible refine gate_dst (N := 8) rfl ?_); (try (refine gate_guard (by rfl) ?_; dsimp only)); refine box_event ?hg (N := 8) ?hd (cs := #[.string (⟨#[]⟩ : ByteArray), .int .i64 0, .int .i64 0, .int .i64 0, .int .i64 0]) (t := 49) ?hr ?_; (case hd => rfl); (case hg => rfl); (case hr => first | (go_simp; done) | (go_simp; rfl)); intro gb344 hg w58 hbox hb; have n0_ := mK (kB (g := gb339) (o := .cells #[.int .u32 a0_0, .int .u32 a0_1, .int .u32 a0_2, .int .u32 a0_3, .int .u32 a0_4, .slice A0_5 l0_5.length c0_5, .slice A0_6 l0_6.length c0_6, .int .u32 a0_7, .int .u32 a0_8, .int .u32 a0_9, .int .u32 a0_10, .slice (some ad343) l0_11.length c0_11] 40 (0, 0)) (by (with_reducible repeat (first | refine kN ?_ _ | refine kD ?_ | refine kA ?_ _)); exact BK339.out) hb); have n1_ := mK (bP (by repeat (first | (with_reducible first | exact HB.out | apply bA | apply bN | apply bD | refine bS ?_ GE339.out) | exact HB.out)) hb); have n2_ := mK (hbox); have n3_ := mK ((by rw [hg]; exact (bZ (by repeat (first | (with_reducible first | exact HB.out | apply bA | apply bN | apply bD | refine bS ?_ GE339.out) | exact HB.out))) : w.heap.size ≤ gb344)); have n4_ := mK ((by rw [hg]; exact (bZ (by repeat (first | (with_reducible first | exact HB.out | apply bA | apply bN | apply bD | refine bS ?_ GE339.out) | exact HB.out))) : w.heap.size ≤ gb344)); have n5_ := mK ((by rw [hg]; exact Nat.ne_of_lt (blk_lt (g := gb339) (o := .cells #[.int .u32 a0_0, .int .u32 a0_1, .int .u32 a0_2, .int .u32 a0_3, .int .u32 a0_4, .slice A0_5 l0_5.length c0_5, .slice A0_6 l0_6.length c0_6, .int .u32 a0_7, .int .u32 a0_8, .int .u32 a0_9, .int .u32 a0_10, .slice (some ad343) l0_11.length c0_11] 40 (0, 0)) (by (with_reducible repeat (first | refine kN ?_ _ | refine kD ?_ | refine kA ?_ _)); exact BK339.out)) : gb339 ≠ gb344)); have n6_ := mK ((by rw [hg]; exact Nat.ne_of_gt (blk_lt (g := gb339) (o := .cells #[.int .u32 a0_0, .int .u32 a0_1, .int .u32 a0_2, .int .u32 a0_3, .int .u32 a0_4, .slice A0_5 l0_5.length c0_5, .slice A0_6 l0_6.length c0_6, .int .u32 a0_7, .int .u32 a0_8, .int .u32 a0_9, .int .u32 a0_10, .slice (some ad343) l0_11.length c0_11] 40 (0, 0)) (by (with_reducible repeat (first | refine kN ?_ _ | refine kD ?_ | refine kA ?_ _)); exact BK339.out)) : gb344 ≠ gb339)); clear BK339; clear HB; have BK339 := n0_; have HB := n1_; have BK344 := n2_; have GW344 := n3_; have GE344 := n4_; have NB339_344 := n5_; have NB344_339 := n6_; clear n0_ n1_ n2_ n3_ n4_ n5_ n6_; clear hb hbox hg; have hnb59 := NB344_339.out; have hnc59 := NB339_344.out; obtain ⟨hcz60_0, hcz60_1, hcz60_2, hcz60_3, hcz60_4, hfz60_0, hfz60_1, hfz60_2, hfz60_3, hfz60_4⟩ := cf5 BK344.out))
           go_roundg k2
           case measure => have := HJ4.out; have := HK2.out; omega
           case rel => exact ⟨(wrap64 (x7_2 + 1)), (by first | rfl | (simp; done) | (simp [*]; done)), H', ⟨by have := HJ4.out; have := HK2.out; omega⟩, ⟨by (with_reducible repeat (first | refine kN ?_ _ | refine kD ?_ | refine kA ?_ _)); refine kR ?_ NB339_344.out _; (with_reducible repeat (first | refine kN ?_ _ | refine kD ?_ | refine kA ?_ _)); refine kR ?_ NB339_344.out _; (with_reducible repeat (first | refine kN ?_ _ | refine kD ?_ | refine kA ?_ _)); refine kR ?_ NB339_344.out _; (with_reducible repeat (first | refine kN ?_ _ | refine kD ?_ | refine kA ?_ _)); refine kR ?_ NB339_344.out _; (with_reducible repeat (first | refine kN ?_ _ | refine kD ?_ | refine kA ?_ _)); refine kR ?_ NB339_344.out _; (with_reducible repeat (first | refine kN ?_ _ | refine kD ?_ | refine kA ?_ _)); exact BK339.out⟩, ⟨by repeat (first | (with_reducible first | exact HB.out | apply bA | apply bN | apply bD | refine bS ?_ GE339.out | refine bS ?_ GE344.out) | exact HB.out)⟩⟩
         ·
          rw [if_neg c17] at H
          have c17b0 : (((rd_T49 l0_11 x7_2).f0).toList == a1.toList) = false := bQ c17
          have c17b1 : (((rd_T49 l0_11 x7_2).f0).toList != a1.toList) = true := bne_iff_ne.mpr c17
          have H' := mK H
          clear H
          have hcz61_0 : wr.cell? ⟨gb339, 0, none⟩ = some (.int .u32 a0_0) := (kC BK339.out 0).trans rfl
          have hcz61_1 : wr.cell? ⟨gb339, 1, none⟩ = some (.int .u32 a0_1) := (kC BK339.out 1).trans rfl
          have hcz61_2 : wr.cell? ⟨gb339, 2, none⟩ = some (.int .u32 a0_2) := (kC BK339.out 2).trans rfl
          have hcz61_3 : wr.cell? ⟨gb339, 3, none⟩ = some (.int .u32 a0_3) := (kC BK339.out 3).trans rfl
          have hcz61_4 : wr.cell? ⟨gb339, 4, none⟩ = some (.int .u32 a0_4) := (kC BK339.out 4).trans rfl
          have hcz61_5 : wr.cell? ⟨gb339, 5, none⟩ = some (.slice A0_5 l0_5.length c0_5) := (kC BK339.out 5).trans rfl
          have hcz61_6 : wr.cell? ⟨gb339, 6, none⟩ = some (.slice A0_6 l0_6.length c0_6) := (kC BK339.out 6).trans rfl
          have hcz61_7 : wr.cell? ⟨gb339, 7, none⟩ = some (.int .u32 a0_7) := (kC BK339.out 7).trans rfl
          have hcz61_8 : wr.cell? ⟨gb339, 8, none⟩ = some (.int .u32 a0_8) := (kC BK339.out 8).trans rfl
          have hcz61_9 : wr.cell? ⟨gb339, 9, none⟩ = some (.int .u32 a0_9) := (kC BK339.out 9).trans rfl
          have hcz61_10 : wr.cell? ⟨gb339, 10, none⟩ = some (.int .u32 a0_10) := (kC BK339.out 10).trans rfl
          have hcz61_11 : wr.cell? ⟨gb339, 11, none⟩ = some (.slice A0_11 l0_11.length c0_11) := (kC BK339.out 11).trans rfl
          have hfz61_0 := kF BK339.out 0
          have hfz61_1 := kF BK339.out 1
          have hfz61_2 := kF BK339.out 2
          have hfz61_3 := kF BK339.out 3
          have hfz61_4 := kF BK339.out 4
          have hfz61_5 := kF BK339.out 5
          have hfz61_6 := kF BK339.out 6
          have hfz61_7 := kF BK339.out 7
          have hfz61_8 := kF BK339.out 8
          have hfz61_9 := kF BK339.out 9
          have hfz61_10 := kF BK339.out 10
          have hfz61_11 := kF BK339.out 11
          have p343 : 0 ≤ (x7_2 : Int) := of_decide_eq_true (by first | (with_reducible assumption) | assumption)
          have q343 : x7_2 < (l0_11.length : Int) := of_decide_eq_true (by first | (with_reducible assumption) | assumption)
          obtain ⟨ad343, e343, hx343_0, hx343_1, hx343_2, hx343_3, hx343_4⟩ := at_T49 HR0_11.out x7_2 p343 q343
          cases e343
          replace hx343_0 := (HB.out.cell (World.block_lt_of_cell? w _ hx343_0)).trans hx343_0
          replace hx343_1 := (HB.out.cell (World.block_lt_of_cell? w _ hx343_1)).trans hx343_1
          replace hx343_2 := (HB.out.cell (World.block_lt_of_cell? w _ hx343_2)).trans hx343_2
          replace hx343_3 := (HB.out.cell (World.block_lt_of_cell? w _ hx343_3)).trans hx343_3
          replace hx343_4 := (HB.out.cell (World.block_lt_of_cell? w _ hx343_4)).trans hx343_4
          replace p343 := eq_true p343
          replace q343 := eq_true q343
          go_wp2_with (first | ((with_reducible refine gate_dst (N := 8) rfl ?_); (try (refine gate_guard (by rfl) ?_; dsimp only)); refine box_event ?hg (N := 8) ?hd (cs := #[.string (⟨#[]⟩ : ByteArray), .int .i64 0, .int .i64 0, .int .i64 0, .int .i64 0]) (t := 49) ?hr ?_; (case hd => rfl); (case hg => rfl); (case hr => first | (go_simp; done) | (go_simp; rfl)); intro gb344 hg w62 hbox hb; have n0_ := mK (kB (g := gb339) (o := .cells #[.int .u32 a0_0, .int .u32 a0_1, .int .u32 a0_2, .int .u32 a0_3, .int .u32 a0_4, .slice A0_5 l0_5.length c0_5, .slice A0_6 l0_6.length c0_6, .int .u32 a0_7, .int .u32 a0_8, .int .u32 a0_9, .int .u32 a0_10, .slice (some ad343) l0_11.length c0_11] 40 (0, 0)) (by (with_reducible repeat (first | refine kN ?_ _ | refine kD ?_ | refine kA ?_ _)); exact BK339.out) hb); have n1_ := mK (bP (by repeat (first | (with_reducible first | exact HB.out | apply bA | apply bN | apply bD | refine bS ?_ GE339.out) | exact HB.out)) hb); have n2_ := mK (hbox); have n3_ := mK ((by rw [hg]; exact (bZ (by repeat (first | (with_reducible first | exact HB.out | apply bA | apply bN | apply bD | refine bS ?_ GE339.out) | exact HB.out))) : w.heap.size ≤ gb344)); have n4_ := mK ((by rw [hg]; exact (bZ (by repeat (first | (with_reducible first | exact HB.out | apply bA | apply bN | apply bD | refine bS ?_ GE339.out) | exact HB.out))) : w.heap.size ≤ gb344)); have n5_ := mK ((by rw [hg]; exact Nat.ne_of_lt (blk_lt (g := gb339) (o := .cells #[.int .u32 a0_0, .int .u32 a0_1, .int .u32 a0_2, .int .u32 a0_3, .int .u32 a0_4, .slice A0_5 l0_5.length c0_5, .slice A0_6 l0_6.length c0_6, .int .u32 a0_7, .int .u32 a0_8, .int .u32 a0_9, .int .u32 a0_10, .slice (some ad343) l0_11.length c0_11] 40 (0, 0)) (by (with_reducible repeat (first | refine kN ?_ _ | refine kD ?_ | refine kA ?_ _)); exact BK339.out)) : gb339 ≠ gb344)); have n6_ := mK ((by rw [hg]; exact Nat.ne_of_gt (blk_lt (g := gb339) (o := .cells #[.int .u32 a0_0, .int .u32 a0_1, .int .u32 a0_2, .int .u32 a0_3, .int .u32 a0_4, .slice A0_5 l0_5.length c0_5, .slice A0_6 l0_6.length c0_6, .int .u32 a0_7, .int .u32 a0_8, .int .u32 a0_9, .int .u32 a0_10, .slice (some ad343) l0_11.length c0_11] 40 (0, 0)) (by (with_reducible repeat (first | refine kN ?_ _ | refine kD ?_ | refine kA ?_ _)); exact BK339.out)) : gb344 ≠ gb339)); clear BK339; clear HB; have BK339 := n0_; have HB := n1_; have BK344 := n2_; have GW344 := n3_; have GE344 := n4_; have NB339_344 := n5_; have NB344_339 := n6_; clear n0_ n1_ n2_ n3_ n4_ n5_ n6_; clear hb hbox hg; have hnb63 := NB344_339.out; have hnc63 := NB339_344.out; obtain ⟨hcz64_0, hcz64_1, hcz64_2, hcz64_3, hcz64_4, hfz64_0, hfz64_1, hfz64_2, hfz64_3, hfz64_4⟩ := cf5 BK344.out))
          go_roundg k2
          case measure => have := HJ4.out; have := HK2.out; omega
          case rel => exact ⟨(wrap64 (x7_2 + 1)), (by first | rfl | (simp; done) | (simp [*]; done)), H', ⟨by have := HJ4.out; have := HK2.out; omega⟩, ⟨by (with_reducible repeat (first | refine kN ?_ _ | refine kD ?_ | refine kA ?_ _)); refine kR ?_ NB339_344.out _; (with_reducible repeat (first | refine kN ?_ _ | refine kD ?_ | refine kA ?_ _)); refine kR ?_ NB339_344.out _; (with_reducible repeat (first | refine kN ?_ _ | refine kD ?_ | refine kA ?_ _)); refine kR ?_ NB339_344.out _; (with_reducible repeat (first | refine kN ?_ _ | refine kD ?_ | refine kA ?_ _)); refine kR ?_ NB339_344.out _; (with_reducible repeat (first | refine kN ?_ _ | refine kD ?_ | refine kA ?_ _)); refine kR ?_ NB339_344.out _; (with_reducible repeat (first | refine kN ?_ _ | refine kD ?_ | refine kA ?_ _)); exact BK339.out⟩, ⟨by repeat (first | (with_reducible first | exact HB.out | apply bA | apply bN | apply bD | refine bS ?_ GE339.out | refine bS ?_ GE344.out) | exact HB.out)⟩⟩
        ·
         rw [if_neg c16] at H
         exact absurd H (by simp)
       ·
        rw [if_neg c15] at H
        have c15b0 : decide (x7_2 < (l0_11.length : Int)) = false := decide_eq_false c15
        clear c15
        by_cases c65 : t342 = 144
        ·
         rw [if_pos c65] at H
         have c65b0 : (t342 == 144) = true := beq_iff_eq.mpr c65
         have c65b1 : (t342 != 144) = false := bR c65
         clear c65
         obtain rfl := Option.some.inj H
         have hcz66_0 : wr.cell? ⟨gb339, 0, none⟩ = some (.int .u32 a0_0) := (kC BK339.out 0).trans rfl
         have hcz66_1 : wr.cell? ⟨gb339, 1, none⟩ = some (.int .u32 a0_1) := (kC BK339.out 1).trans rfl
         have hcz66_2 : wr.cell? ⟨gb339, 2, none⟩ = some (.int .u32 a0_2) := (kC BK339.out 2).trans rfl
         have hcz66_3 : wr.cell? ⟨gb339, 3, none⟩ = some (.int .u32 a0_3) := (kC BK339.out 3).trans rfl
         have hcz66_4 : wr.cell? ⟨gb339, 4, none⟩ = some (.int .u32 a0_4) := (kC BK339.out 4).trans rfl
         have hcz66_5 : wr.cell? ⟨gb339, 5, none⟩ = some (.slice A0_5 l0_5.length c0_5) := (kC BK339.out 5).trans rfl
         have hcz66_6 : wr.cell? ⟨gb339, 6, none⟩ = some (.slice A0_6 l0_6.length c0_6) := (kC BK339.out 6).trans rfl
         have hcz66_7 : wr.cell? ⟨gb339, 7, none⟩ = some (.int .u32 a0_7) := (kC BK339.out 7).trans rfl
         have hcz66_8 : wr.cell? ⟨gb339, 8, none⟩ = some (.int .u32 a0_8) := (kC BK339.out 8).trans rfl
         have hcz66_9 : wr.cell? ⟨gb339, 9, none⟩ = some (.int .u32 a0_9) := (kC BK339.out 9).trans rfl
         have hcz66_10 : wr.cell? ⟨gb339, 10, none⟩ = some (.int .u32 a0_10) := (kC BK339.out 10).trans rfl
         have hcz66_11 : wr.cell? ⟨gb339, 11, none⟩ = some (.slice A0_11 l0_11.length c0_11) := (kC BK339.out 11).trans rfl
         have hfz66_0 := kF BK339.out 0
         have hfz66_1 := kF BK339.out 1
         have hfz66_2 := kF BK339.out 2
         have hfz66_3 := kF BK339.out 3
         have hfz66_4 := kF BK339.out 4
         have hfz66_5 := kF BK339.out 5
         have hfz66_6 := kF BK339.out 6
         have hfz66_7 := kF BK339.out 7
         have hfz66_8 := kF BK339.out 8
         have hfz66_9 := kF BK339.out 9
         have hfz66_10 := kF BK339.out 10
         have hfz66_11 := kF BK339.out 11
         go_wp2
         go_ret
         exact ⟨by first | rfl | (simp [errW_none, errW_some] <;> rfl) | (simp [*, errW_none, errW_some] <;> rfl), by repeat (first | (with_reducible first | exact HB.out | apply bA | apply bN | apply bD | refine bS ?_ GE339.out) | exact HB.out)⟩
        ·
         rw [if_neg c65] at H
         have c65b0 : (t342 == 144) = false := bQ c65
         have c65b1 : (t342 != 144) = true := bne_iff_ne.mpr c65
         obtain rfl := Option.some.inj H
         have hcz67_0 : wr.cell? ⟨gb339, 0, none⟩ = some (.int .u32 a0_0) := (kC BK339.out 0).trans rfl
         have hcz67_1 : wr.cell? ⟨gb339, 1, none⟩ = some (.int .u32 a0_1) := (kC BK339.out 1).trans rfl
         have hcz67_2 : wr.cell? ⟨gb339, 2, none⟩ = some (.int .u32 a0_2) := (kC BK339.out 2).trans rfl
         have hcz67_3 : wr.cell? ⟨gb339, 3, none⟩ = some (.int .u32 a0_3) := (kC BK339.out 3).trans rfl
         have hcz67_4 : wr.cell? ⟨gb339, 4, none⟩ = some (.int .u32 a0_4) := (kC BK339.out 4).trans rfl
         have hcz67_5 : wr.cell? ⟨gb339, 5, none⟩ = some (.slice A0_5 l0_5.length c0_5) := (kC BK339.out 5).trans rfl
         have hcz67_6 : wr.cell? ⟨gb339, 6, none⟩ = some (.slice A0_6 l0_6.length c0_6) := (kC BK339.out 6).trans rfl
         have hcz67_7 : wr.cell? ⟨gb339, 7, none⟩ = some (.int .u32 a0_7) := (kC BK339.out 7).trans rfl
         have hcz67_8 : wr.cell? ⟨gb339, 8, none⟩ = some (.int .u32 a0_8) := (kC BK339.out 8).trans rfl
         have hcz67_9 : wr.cell? ⟨gb339, 9, none⟩ = some (.int .u32 a0_9) := (kC BK339.out 9).trans rfl
         have hcz67_10 : wr.cell? ⟨gb339, 10, none⟩ = some (.int .u32 a0_10) := (kC BK339.out 10).trans rfl
         have hcz67_11 : wr.cell? ⟨gb339, 11, none⟩ = some (.slice A0_11 l0_11.length c0_11) := (kC BK339.out 11).trans rfl
         have hfz67_0 := kF BK339.out 0
         have hfz67_1 := kF BK339.out 1
         have hfz67_2 := kF BK339.out 2
         have hfz67_3 := kF BK339.out 3
         have hfz67_4 := kF BK339.out 4
         have hfz67_5 := kF BK339.out 5
         have hfz67_6 := kF BK339.out 6
         have hfz67_7 := kF BK339.out 7
         have hfz67_8 := kF BK339.out 8
         have hfz67_9 := kF BK339.out 9
         have hfz67_10 := kF BK339.out 10
         have hfz67_11 := kF BK339.out 11
         go_wp2
         go_ret
         exact ⟨by first | rfl | (simp [errW_none, errW_some] <;> rfl) | (simp [*, errW_none, errW_some] <;> rfl), by repeat (first | (with_reducible first | exact HB.out | apply bA | apply bN | apply bD | refine bS ?_ GE339.out) | exact HB.out)⟩
 ·
  replace c4 := Bool.eq_false_iff.mpr c4
  subst c4
  have H1 : (some false) = some r := by rw [if_neg (show ¬ (false = true) by decide)] at H; exact H
  clear H
  have H := H1
  clear H1
  obtain rfl := Option.some.inj H
  go_enter Try.func5, Try.ntmps5
  go_wp2_with (first | ((with_reducible refine gate_dst (N := 2) rfl ?_); (try (refine gate_guard (by rfl) ?_; dsimp only)); refine box_event ?hg (N := 2) ?hd (cs := #[.int .u32 a0_0, .int .u32 a0_1, .int .u32 a0_2, .int .u32 a0_3, .int .u32 a0_4, .slice A0_5 l0_5.length c0_5, .slice A0_6 l0_6.length c0_6, .int .u32 a0_7, .int .u32 a0_8, .int .u32 a0_9, .int .u32 a0_10, .slice A0_11 l0_11.length c0_11]) (t := 40) ?hr ?_; (case hd => rfl); (case hg => rfl); (case hr => first | (go_simp; done) | (go_simp; rfl)); intro gb339 hg w68 hbox hb; have n0_ := mK (bP (by repeat (first | (with_reducible first | exact HB.out | apply bA | apply bN | apply bD) | exact HB.out)) hb); have n1_ := mK (hbox); have n2_ := mK ((by rw [hg]; exact (bZ (by repeat (first | (with_reducible first | exact HB.out | apply bA | apply bN | apply bD) | exact HB.out))) : w.heap.size ≤ gb339)); have n3_ := mK ((by rw [hg]; exact (bZ (by repeat (first | (with_reducible first | exact HB.out | apply bA | apply bN | apply bD) | exact HB.out))) : w.heap.size ≤ gb339)); clear HB; have HB := n0_; have BK339 := n1_; have GW339 := n2_; have GE339 := n3_; clear n0_ n1_ n2_ n3_; clear hb hbox hg) | ((with_reducible refine gate_callee (f := 6) rfl ?_); refine goesL_ (some 9) rfl rfl Try.func6 (by kernel_rfl) rfl #[] rfl (by (try simp only [List.map_toArray, List.map_cons, List.map_nil]); first | done | rfl) ?_; (with_reducible refine (pascalinelaw31_awake.calls k  false _ A3.out).mono ?_); rintro e w69 ⟨rfl, hb⟩; refine ⟨_, rfl, ?_⟩; have n0_ := mK (kB (g := gb339) (o := .cells #[.int .u32 a0_0, .int .u32 a0_1, .int .u32 a0_2, .int .u32 a0_3, .int .u32 a0_4, .slice A0_5 l0_5.length c0_5, .slice A0_6 l0_6.length c0_6, .int .u32 a0_7, .int .u32 a0_8, .int .u32 a0_9, .int .u32 a0_10, .slice A0_11 l0_11.length c0_11] 40 (0, 0)) (by (with_reducible repeat (first | refine kN ?_ _ | refine kD ?_ | refine kA ?_ _)); exact BK339.out) hb); have n1_ := mK (bP (by repeat (first | (with_reducible first | exact HB.out | apply bA | apply bN | apply bD | refine bS ?_ GE339.out) | exact HB.out)) hb); clear BK339; clear HB; have BK339 := n0_; have HB := n1_; clear n0_ n1_; (try clear hb)))
  go_ret
  exact ⟨by first | rfl | (simp [errW_none, errW_some] <;> rfl) | (simp [*, errW_none, errW_some] <;> rfl), by repeat (first | (with_reducible first | exact HB.out | apply bA | apply bN | apply bD | refine bS ?_ GE339.out) | exact HB.out)⟩

end Go.Proofs.Ytmebogkhdbbbbaa.P

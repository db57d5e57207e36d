import Derived.Test.YtfagpgpeiomnpaaPx0
import Derived.Test.YtfagpgpeiomnpaaCCf
import Derived.Test.YtfagpgpeiomnpaaPx19
import Derived.Test.YtfagpgpeiomnpaaPx28
namespace Go.Proofs.Ytfagpgpeiomnpaa.P
open Go.RowKit Go.Proofs.YtfagpgpeiomnpaaW.PrintWords Go.Proofs.YtfagpgpeiomnpaaW.PrintLast Go.Proofs.YtfagpgpeiomnpaaW.PrintMore
attribute [local go_sem] max2_int min2_int max_two min_two max_three min_three max_four min_four   -- for this text's walks alone
set_option linter.unusedVariables false
set_option linter.unusedSimpArgs false

/-! ### pascalineref06_Line: function 10 -/
def pascalineref06_Line.f (k : Nat) (a0 : Int) (a1 : Int) : Option (ByteArray) := (pascalineref01_Hex.f k a0).bind fun t252 => (if t252.size + 1 ≤ 9223372036854775807 then ((pascalineref01_Hex.f k a1).bind fun t253 => (if (t252 ++ (⟨#[32]⟩ : ByteArray)).size + t253.size ≤ 9223372036854775807 then (if ((t252 ++ (⟨#[32]⟩ : ByteArray)) ++ t253).size + 1 ≤ 9223372036854775807 then ((pascalineref02_Decode.f k a1).bind fun bt254 => (if bt254.2.2.2.2.2 = 0 then ((pascalineref02_Text.f k bt254.1 bt254.2.1 bt254.2.2.1 bt254.2.2.2.1 bt254.2.2.2.2.1).bind fun bt261 => ((pascalineref06_leads.f bt254.1).bind fun t263 => (if t263 = true then (if bt261.1.size + 4 ≤ 9223372036854775807 then ((pascalineref01_Hex.f k ((((a0 + 4) % 4294967296) + ((4 * ((bt254.2.2.2.2.1) % 4294967296)) % 4294967296)) % 4294967296)).bind fun t264 => (if (bt261.1 ++ (⟨#[32, 45, 62, 32]⟩ : ByteArray)).size + t264.size ≤ 9223372036854775807 then (if (((t252 ++ (⟨#[32]⟩ : ByteArray)) ++ t253) ++ (⟨#[32]⟩ : ByteArray)).size + ((bt261.1 ++ (⟨#[32, 45, 62, 32]⟩ : ByteArray)) ++ t264).size ≤ 9223372036854775807 then (some ((((t252 ++ (⟨#[32]⟩ : ByteArray)) ++ t253) ++ (⟨#[32]⟩ : ByteArray)) ++ ((bt261.1 ++ (⟨#[32, 45, 62, 32]⟩ : ByteArray)) ++ t264))) else (none)) else (none))) else (none)) else (if (((t252 ++ (⟨#[32]⟩ : ByteArray)) ++ t253) ++ (⟨#[32]⟩ : ByteArray)).size + bt261.1.size ≤ 9223372036854775807 then (some ((((t252 ++ (⟨#[32]⟩ : ByteArray)) ++ t253) ++ (⟨#[32]⟩ : ByteArray)) ++ bt261.1)) else (none))))) else (if (((t252 ++ (⟨#[32]⟩ : ByteArray)) ++ t253) ++ (⟨#[32]⟩ : ByteArray)).size + 1 ≤ 9223372036854775807 then (some ((((t252 ++ (⟨#[32]⟩ : ByteArray)) ++ t253) ++ (⟨#[32]⟩ : ByteArray)) ++ (⟨#[63]⟩ : ByteArray))) else (none)))) else (none)) else (none))) else (none))
theorem pascalineref06_Line.mono : ∀ a0 a1 k, LeO (pascalineref06_Line.f k a0 a1) (pascalineref06_Line.f (k + 1) a0 a1) := by
 intro a0 a1 k
 unfold pascalineref06_Line.f
 repeat' first
  | (with_reducible exact pascalineref01_Hex.mono _ _)
  | (with_reducible exact pascalineref02_Decode.mono _ _)
  | (with_reducible exact pascalineref02_Text.mono _ _ _ _ _ _)
  | (with_reducible exact LeO.refl _)
  | (with_reducible exact LeO.none _)
  | (with_reducible refine LeO.ite ?_ ?_)
  | (with_reducible refine LeO.bind ?_ (fun _ => ?_))
  | exact LeO.none _
  | refine LeO.ite ?_ ?_
  | refine LeO.bind ?_ (fun _ => ?_)
set_option maxHeartbeats 8000000 in
set_option maxRecDepth 100000 in
theorem pascalineref06_Line.calls (k : Nat) (a0 : Int) (a1 : Int) (r : ByteArray) (w : World) (h : pascalineref06_Line.f k a0 a1 = some r) :
 Calls Try.prog 10 #[.int .u32 a0, .int .u32 a1] w fun e w' => e = .returned (.string r) ∧ Below w.heap.size w w' := by
 have hu54 := Try.underlying54
 have HB := mK (Below.refl w.heap.size w)
 have H : ((pascalineref01_Hex.f k a0).bind fun t252 => (if t252.size + 1 ≤ 9223372036854775807 then ((pascalineref01_Hex.f k a1).bind fun t253 => (if (t252 ++ (⟨#[32]⟩ : ByteArray)).size + t253.size ≤ 9223372036854775807 then (if ((t252 ++ (⟨#[32]⟩ : ByteArray)) ++ t253).size + 1 ≤ 9223372036854775807 then ((pascalineref02_Decode.f k a1).bind fun bt254 => (if bt254.2.2.2.2.2 = 0 then ((pascalineref02_Text.f k bt254.1 bt254.2.1 bt254.2.2.1 bt254.2.2.2.1 bt254.2.2.2.2.1).bind fun bt261 => ((pascalineref06_leads.f bt254.1).bind fun t263 => (if t263 = true then (if bt261.1.size + 4 ≤ 9223372036854775807 then ((pascalineref01_Hex.f k ((((a0 + 4) % 4294967296) + ((4 * ((bt254.2.2.2.2.1) % 4294967296)) % 4294967296)) % 4294967296)).bind fun t264 => (if (bt261.1 ++ (⟨#[32, 45, 62, 32]⟩ : ByteArray)).size + t264.size ≤ 9223372036854775807 then (if (((t252 ++ (⟨#[32]⟩ : ByteArray)) ++ t253) ++ (⟨#[32]⟩ : ByteArray)).size + ((bt261.1 ++ (⟨#[32, 45, 62, 32]⟩ : ByteArray)) ++ t264).size ≤ 9223372036854775807 then (some ((((t252 ++ (⟨#[32]⟩ : ByteArray)) ++ t253) ++ (⟨#[32]⟩ : ByteArray)) ++ ((bt261.1 ++ (⟨#[32, 45, 62, 32]⟩ : ByteArray)) ++ t264))) else (none)) else (none))) else (none)) else (if (((t252 ++ (⟨#[32]⟩ : ByteArray)) ++ t253) ++ (⟨#[32]⟩ : ByteArray)).size + bt261.1.size ≤ 9223372036854775807 then (some ((((t252 ++ (⟨#[32]⟩ : ByteArray)) ++ t253) ++ (⟨#[32]⟩ : ByteArray)) ++ bt261.1)) else (none))))) else (if (((t252 ++ (⟨#[32]⟩ : ByteArray)) ++ t253) ++ (⟨#[32]⟩ : ByteArray)).size + 1 ≤ 9223372036854775807 then (some ((((t252 ++ (⟨#[32]⟩ : ByteArray)) ++ t253) ++ (⟨#[32]⟩ : ByteArray)) ++ (⟨#[63]⟩ : ByteArray))) else (none)))) else (none)) else (none))) else (none))) = some r := h
 clear h
 replace H := oB H
 obtain ⟨t252, A30, H⟩ := H
 replace H : (if t252.size + 1 ≤ 9223372036854775807 then ((pascalineref01_Hex.f k a1).bind fun t253 => (if (t252 ++ (⟨#[32]⟩ : ByteArray)).size + t253.size ≤ 9223372036854775807 then (if ((t252 ++ (⟨#[32]⟩ : ByteArray)) ++ t253).size + 1 ≤ 9223372036854775807 then ((pascalineref02_Decode.f k a1).bind fun bt254 => (if bt254.2.2.2.2.2 = 0 then ((pascalineref02_Text.f k bt254.1 bt254.2.1 bt254.2.2.1 bt254.2.2.2.1 bt254.2.2.2.2.1).bind fun bt261 => ((pascalineref06_leads.f bt254.1).bind fun t263 => (if t263 = true then (if bt261.1.size + 4 ≤ 9223372036854775807 then ((pascalineref01_Hex.f k ((((a0 + 4) % 4294967296) + ((4 * ((bt254.2.2.2.2.1) % 4294967296)) % 4294967296)) % 4294967296)).bind fun t264 => (if (bt261.1 ++ (⟨#[32, 45, 62, 32]⟩ : ByteArray)).size + t264.size ≤ 9223372036854775807 then (if (((t252 ++ (⟨#[32]⟩ : ByteArray)) ++ t253) ++ (⟨#[32]⟩ : ByteArray)).size + ((bt261.1 ++ (⟨#[32, 45, 62, 32]⟩ : ByteArray)) ++ t264).size ≤ 9223372036854775807 then (some ((((t252 ++ (⟨#[32]⟩ : ByteArray)) ++ t253) ++ (⟨#[32]⟩ : ByteArray)) ++ ((bt261.1 ++ (⟨#[32, 45, 62, 32]⟩ : ByteArray)) ++ t264))) else (none)) else (none))) else (none)) else (if (((t252 ++ (⟨#[32]⟩ : ByteArray)) ++ t253) ++ (⟨#[32]⟩ : ByteArray)).size + bt261.1.size ≤ 9223372036854775807 then (some ((((t252 ++ (⟨#[32]⟩ : ByteArray)) ++ t253) ++ (⟨#[32]⟩ : ByteArray)) ++ bt261.1)) else (none))))) else (if (((t252 ++ (⟨#[32]⟩ : ByteArray)) ++ t253) ++ (⟨#[32]⟩ : ByteArray)).size + 1 ≤ 9223372036854775807 then (some ((((t252 ++ (⟨#[32]⟩ : ByteArray)) ++ t253) ++ (⟨#[32]⟩ : ByteArray)) ++ (⟨#[63]⟩ : ByteArray))) else (none)))) else (none)) else (none))) else (none)) = some r := H
 have A3 := mK A30
 clear A30
 by_cases c4 : t252.size + 1 ≤ 9223372036854775807
 ·
  rw [if_pos c4] at H
  have c4b0 := eq_true c4
  have c4b1 : decide (t252.size + 1 ≤ 9223372036854775807) = true := decide_eq_true c4
  try have c4b2 : (9223372036854775807 < t252.size + 1) = False := eq_false (Nat.not_lt.2 c4)
  try (have c4s2 := c4b2; simp only [ByteArray.size_append, Go.Proofs.Ytfagpgpeiomnpaa.C.ba_lit, List.size_toArray, List.length_cons, List.length_nil, Nat.zero_add, Nat.reduceAdd] at c4s2)
  replace H := oB H
  obtain ⟨t253, A50, H⟩ := H
  replace H : (if (t252 ++ (⟨#[32]⟩ : ByteArray)).size + t253.size ≤ 9223372036854775807 then (if ((t252 ++ (⟨#[32]⟩ : ByteArray)) ++ t253).size + 1 ≤ 9223372036854775807 then ((pascalineref02_Decode.f k a1).bind fun bt254 => (if bt254.2.2.2.2.2 = 0 then ((pascalineref02_Text.f k bt254.1 bt254.2.1 bt254.2.2.1 bt254.2.2.2.1 bt254.2.2.2.2.1).bind fun bt261 => ((pascalineref06_leads.f bt254.1).bind fun t263 => (if t263 = true then (if bt261.1.size + 4 ≤ 9223372036854775807 then ((pascalineref01_Hex.f k ((((a0 + 4) % 4294967296) + ((4 * ((bt254.2.2.2.2.1) % 4294967296)) % 4294967296)) % 4294967296)).bind fun t264 => (if (bt261.1 ++ (⟨#[32, 45, 62, 32]⟩ : ByteArray)).size + t264.size ≤ 9223372036854775807 then (if (((t252 ++ (⟨#[32]⟩ : ByteArray)) ++ t253) ++ (⟨#[32]⟩ : ByteArray)).size + ((bt261.1 ++ (⟨#[32, 45, 62, 32]⟩ : ByteArray)) ++ t264).size ≤ 9223372036854775807 then (some ((((t252 ++ (⟨#[32]⟩ : ByteArray)) ++ t253) ++ (⟨#[32]⟩ : ByteArray)) ++ ((bt261.1 ++ (⟨#[32, 45, 62, 32]⟩ : ByteArray)) ++ t264))) else (none)) else (none))) else (none)) else (if (((t252 ++ (⟨#[32]⟩ : ByteArray)) ++ t253) ++ (⟨#[32]⟩ : ByteArray)).size + bt261.1.size ≤ 9223372036854775807 then (some ((((t252 ++ (⟨#[32]⟩ : ByteArray)) ++ t253) ++ (⟨#[32]⟩ : ByteArray)) ++ bt261.1)) else (none))))) else (if (((t252 ++ (⟨#[32]⟩ : ByteArray)) ++ t253) ++ (⟨#[32]⟩ : ByteArray)).size + 1 ≤ 9223372036854775807 then (some ((((t252 ++ (⟨#[32]⟩ : ByteArray)) ++ t253) ++ (⟨#[32]⟩ : ByteArray)) ++ (⟨#[63]⟩ : ByteArray))) else (none)))) else (none)) else (none)) = some r := H
  have A5 := mK A50
  clear A50
  by_cases c6 : (t252 ++ (⟨#[32]⟩ : ByteArray)).size + t253.size ≤ 9223372036854775807
  ·
   rw [if_pos c6] at H
   have c6b0 := eq_true c6
   have c6b1 : decide ((t252 ++ (⟨#[32]⟩ : ByteArray)).size + t253.size ≤ 9223372036854775807) = true := decide_eq_true c6
   try have c6b2 : (9223372036854775807 < (t252 ++ (⟨#[32]⟩ : ByteArray)).size + t253.size) = False := eq_false (Nat.not_lt.2 c6)
   try (have c6s2 := c6b2; simp only [ByteArray.size_append, Go.Proofs.Ytfagpgpeiomnpaa.C.ba_lit, List.size_toArray, List.length_cons, List.length_nil, Nat.zero_add, Nat.reduceAdd] at c6s2)
   by_cases c7 : ((t252 ++ (⟨#[32]⟩ : ByteArray)) ++ t253).size + 1 ≤ 9223372036854775807
   ·
    rw [if_pos c7] at H
    have c7b0 := eq_true c7
    have c7b1 : decide (((t252 ++ (⟨#[32]⟩ : ByteArray)) ++ t253).size + 1 ≤ 9223372036854775807) = true := decide_eq_true c7
    try have c7b2 : (9223372036854775807 < ((t252 ++ (⟨#[32]⟩ : ByteArray)) ++ t253).size + 1) = False := eq_false (Nat.not_lt.2 c7)
    try (have c7s2 := c7b2; simp only [ByteArray.size_append, Go.Proofs.Ytfagpgpeiomnpaa.C.ba_lit, List.size_toArray, List.length_cons, List.length_nil, Nat.zero_add, Nat.reduceAdd] at c7s2)
    replace H := oB H
    obtain ⟨⟨t254, t255, t256, t257, t258, t259⟩, A80, H⟩ := H
    replace H : (if t259 = 0 then ((pascalineref02_Text.f k t254 t255 t256 t257 t258).bind fun bt261 => ((pascalineref06_leads.f t254).bind fun t263 => (if t263 = true then (if bt261.1.size + 4 ≤ 9223372036854775807 then ((pascalineref01_Hex.f k ((((a0 + 4) % 4294967296) + ((4 * ((t258) % 4294967296)) % 4294967296)) % 4294967296)).bind fun t264 => (if (bt261.1 ++ (⟨#[32, 45, 62, 32]⟩ : ByteArray)).size + t264.size ≤ 9223372036854775807 then (if (((t252 ++ (⟨#[32]⟩ : ByteArray)) ++ t253) ++ (⟨#[32]⟩ : ByteArray)).size + ((bt261.1 ++ (⟨#[32, 45, 62, 32]⟩ : ByteArray)) ++ t264).size ≤ 9223372036854775807 then (some ((((t252 ++ (⟨#[32]⟩ : ByteArray)) ++ t253) ++ (⟨#[32]⟩ : ByteArray)) ++ ((bt261.1 ++ (⟨#[32, 45, 62, 32]⟩ : ByteArray)) ++ t264))) else (none)) else (none))) else (none)) else (if (((t252 ++ (⟨#[32]⟩ : ByteArray)) ++ t253) ++ (⟨#[32]⟩ : ByteArray)).size + bt261.1.size ≤ 9223372036854775807 then (some ((((t252 ++ (⟨#[32]⟩ : ByteArray)) ++ t253) ++ (⟨#[32]⟩ : ByteArray)) ++ bt261.1)) else (none))))) else (if (((t252 ++ (⟨#[32]⟩ : ByteArray)) ++ t253) ++ (⟨#[32]⟩ : ByteArray)).size + 1 ≤ 9223372036854775807 then (some ((((t252 ++ (⟨#[32]⟩ : ByteArray)) ++ t253) ++ (⟨#[32]⟩ : ByteArray)) ++ (⟨#[63]⟩ : ByteArray))) else (none))) = some r := H
    have A8 := mK A80
    clear A80
    by_cases c9 : t259 = 0
    ·
     rw [if_pos c9] at H
     have c9b0 : (t259 == 0) = true := beq_iff_eq.mpr c9
     have c9b1 : (t259 != 0) = false := bR c9
     clear c9
     replace H := oB H
     obtain ⟨⟨t261, t262⟩, A100, H⟩ := H
     replace H : ((pascalineref06_leads.f t254).bind fun t263 => (if t263 = true then (if t261.size + 4 ≤ 9223372036854775807 then ((pascalineref01_Hex.f k ((((a0 + 4) % 4294967296) + ((4 * ((t258) % 4294967296)) % 4294967296)) % 4294967296)).bind fun t264 => (if (t261 ++ (⟨#[32, 45, 62, 32]⟩ : ByteArray)).size + t264.size ≤ 9223372036854775807 then (if (((t252 ++ (⟨#[32]⟩ : ByteArray)) ++ t253) ++ (⟨#[32]⟩ : ByteArray)).size + ((t261 ++ (⟨#[32, 45, 62, 32]⟩ : ByteArray)) ++ t264).size ≤ 9223372036854775807 then (some ((((t252 ++ (⟨#[32]⟩ : ByteArray)) ++ t253) ++ (⟨#[32]⟩ : ByteArray)) ++ ((t261 ++ (⟨#[32, 45, 62, 32]⟩ : ByteArray)) ++ t264))) else (none)) else (none))) else (none)) else (if (((t252 ++ (⟨#[32]⟩ : ByteArray)) ++ t253) ++ (⟨#[32]⟩ : ByteArray)).size + t261.size ≤ 9223372036854775807 then (some ((((t252 ++ (⟨#[32]⟩ : ByteArray)) ++ t253) ++ (⟨#[32]⟩ : ByteArray)) ++ t261)) else (none)))) = some r := H
     have A10 := mK A100
     clear A100
     replace H := oB H
     obtain ⟨t263, A110, H⟩ := H
     replace H : (if t263 = true then (if t261.size + 4 ≤ 9223372036854775807 then ((pascalineref01_Hex.f k ((((a0 + 4) % 4294967296) + ((4 * ((t258) % 4294967296)) % 4294967296)) % 4294967296)).bind fun t264 => (if (t261 ++ (⟨#[32, 45, 62, 32]⟩ : ByteArray)).size + t264.size ≤ 9223372036854775807 then (if (((t252 ++ (⟨#[32]⟩ : ByteArray)) ++ t253) ++ (⟨#[32]⟩ : ByteArray)).size + ((t261 ++ (⟨#[32, 45, 62, 32]⟩ : ByteArray)) ++ t264).size ≤ 9223372036854775807 then (some ((((t252 ++ (⟨#[32]⟩ : ByteArray)) ++ t253) ++ (⟨#[32]⟩ : ByteArray)) ++ ((t261 ++ (⟨#[32, 45, 62, 32]⟩ : ByteArray)) ++ t264))) else (none)) else (none))) else (none)) else (if (((t252 ++ (⟨#[32]⟩ : ByteArray)) ++ t253) ++ (⟨#[32]⟩ : ByteArray)).size + t261.size ≤ 9223372036854775807 then (some ((((t252 ++ (⟨#[32]⟩ : ByteArray)) ++ t253) ++ (⟨#[32]⟩ : ByteArray)) ++ t261)) else (none))) = some r := H
     have A11 := mK A110
     clear A110
     by_cases c12 : t263 = true
     ·
      subst c12
      have H1 : (if t261.size + 4 ≤ 9223372036854775807 then ((pascalineref01_Hex.f k ((((a0 + 4) % 4294967296) + ((4 * ((t258) % 4294967296)) % 4294967296)) % 4294967296)).bind fun t264 => (if (t261 ++ (⟨#[32, 45, 62, 32]⟩ : ByteArray)).size + t264.size ≤ 9223372036854775807 then (if (((t252 ++ (⟨#[32]⟩ : ByteArray)) ++ t253) ++ (⟨#[32]⟩ : ByteArray)).size + ((t261 ++ (⟨#[32, 45, 62, 32]⟩ : ByteArray)) ++ t264).size ≤ 9223372036854775807 then (some ((((t252 ++ (⟨#[32]⟩ : ByteArray)) ++ t253) ++ (⟨#[32]⟩ : ByteArray)) ++ ((t261 ++ (⟨#[32, 45, 62, 32]⟩ : ByteArray)) ++ t264))) else (none)) else (none))) else (none)) = some r := by rw [if_pos rfl] at H; exact H
      clear H
      have H := H1
      clear H1
      by_cases c13 : t261.size + 4 ≤ 9223372036854775807
      ·
       rw [if_pos c13] at H
       have c13b0 := eq_true c13
       have c13b1 : decide (t261.size + 4 ≤ 9223372036854775807) = true := decide_eq_true c13
       try have c13b2 : (9223372036854775807 < t261.size + 4) = False := eq_false (Nat.not_lt.2 c13)
       try (have c13s2 := c13b2; simp only [ByteArray.size_append, Go.Proofs.Ytfagpgpeiomnpaa.C.ba_lit, List.size_toArray, List.length_cons, List.length_nil, Nat.zero_add, Nat.reduceAdd] at c13s2)
       replace H := oB H
       obtain ⟨t264, A140, H⟩ := H
       replace H : (if (t261 ++ (⟨#[32, 45, 62, 32]⟩ : ByteArray)).size + t264.size ≤ 9223372036854775807 then (if (((t252 ++ (⟨#[32]⟩ : ByteArray)) ++ t253) ++ (⟨#[32]⟩ : ByteArray)).size + ((t261 ++ (⟨#[32, 45, 62, 32]⟩ : ByteArray)) ++ t264).size ≤ 9223372036854775807 then (some ((((t252 ++ (⟨#[32]⟩ : ByteArray)) ++ t253) ++ (⟨#[32]⟩ : ByteArray)) ++ ((t261 ++ (⟨#[32, 45, 62, 32]⟩ : ByteArray)) ++ t264))) else (none)) else (none)) = some r := H
       have A14 := mK A140
       clear A140
       by_cases c15 : (t261 ++ (⟨#[32, 45, 62, 32]⟩ : ByteArray)).size + t264.size ≤ 9223372036854775807
       ·
        rw [if_pos c15] at H
        have c15b0 := eq_true c15
        have c15b1 : decide ((t261 ++ (⟨#[32, 45, 62, 32]⟩ : ByteArray)).size + t264.size ≤ 9223372036854775807) = true := decide_eq_true c15
        try have c15b2 : (9223372036854775807 < (t261 ++ (⟨#[32, 45, 62, 32]⟩ : ByteArray)).size + t264.size) = False := eq_false (Nat.not_lt.2 c15)
        try (have c15s2 := c15b2; simp only [ByteArray.size_append, Go.Proofs.Ytfagpgpeiomnpaa.C.ba_lit, List.size_toArray, List.length_cons, List.length_nil, Nat.zero_add, Nat.reduceAdd] at c15s2)
        by_cases c16 : (((t252 ++ (⟨#[32]⟩ : ByteArray)) ++ t253) ++ (⟨#[32]⟩ : ByteArray)).size + ((t261 ++ (⟨#[32, 45, 62, 32]⟩ : ByteArray)) ++ t264).size ≤ 9223372036854775807
        ·
         rw [if_pos c16] at H
         have c16b0 := eq_true c16
         have c16b1 : decide ((((t252 ++ (⟨#[32]⟩ : ByteArray)) ++ t253) ++ (⟨#[32]⟩ : ByteArray)).size + ((t261 ++ (⟨#[32, 45, 62, 32]⟩ : ByteArray)) ++ t264).size ≤ 9223372036854775807) = true := decide_eq_true c16
         try have c16b2 : (9223372036854775807 < (((t252 ++ (⟨#[32]⟩ : ByteArray)) ++ t253) ++ (⟨#[32]⟩ : ByteArray)).size + ((t261 ++ (⟨#[32, 45, 62, 32]⟩ : ByteArray)) ++ t264).size) = False := eq_false (Nat.not_lt.2 c16)
         try (have c16s2 := c16b2; simp only [ByteArray.size_append, Go.Proofs.Ytfagpgpeiomnpaa.C.ba_lit, List.size_toArray, List.length_cons, List.length_nil, Nat.zero_add, Nat.reduceAdd] at c16s2)
         obtain rfl := Option.some.inj H
         go_enter Try.func10, Try.ntmps10
         go_wp2_with (first | ((with_reducible refine gate_callee (f := 22) rfl ?_); refine goesL_ (some 11) rfl rfl Try.func22 (by kernel_rfl) rfl #[.int .u32 a0] rfl (by (try simp only [List.map_toArray, List.map_cons, List.map_nil]); first | done | rfl) ?_; (with_reducible refine (pascalineref01_Hex.calls k a0 t252 _ A3.out).mono ?_); rintro e w' ⟨rfl, ⟨nd, rfl⟩⟩; refine ⟨_, rfl, ?_⟩) | ((with_reducible refine gate_callee (f := 22) rfl ?_); refine goesL_ (some 14) rfl rfl Try.func22 (by kernel_rfl) rfl #[.int .u32 a1] rfl (by (try simp only [List.map_toArray, List.map_cons, List.map_nil]); first | done | rfl) ?_; (with_reducible refine (pascalineref01_Hex.calls k a1 t253 _ A5.out).mono ?_); rintro e w' ⟨rfl, ⟨nd, rfl⟩⟩; refine ⟨_, rfl, ?_⟩) | ((with_reducible refine gate_callee (f := 23) rfl ?_); refine goesL_ (some 19) rfl rfl Try.func23 (by kernel_rfl) rfl #[.int .u32 a1] rfl (by (try simp only [List.map_toArray, List.map_cons, List.map_nil]); first | done | rfl) ?_; (with_reducible refine (pascalineref02_Decode.calls k a1 t254 t255 t256 t257 t258 t259 _ A8.out).mono ?_); rintro e w17 ⟨rfl, hb⟩; refine ⟨_, rfl, ?_⟩; have n0_ := mK (bP (by repeat (first | (with_reducible first | exact HB.out | apply bA | apply bN | apply bD) | exact HB.out)) hb); clear HB; have HB := n0_; clear n0_; (try clear hb)) | ((with_reducible refine gate_dst (N := 6) rfl ?_); refine box_event ?hg (N := 6) ?hd (cs := #[.int .i64 0, .int .i64 0, .int .i64 0, .int .i64 0, .int .i64 0]) (t := 54) ?hr ?_; (case hd => rfl); (case hg => rfl); (case hr => first | (go_simp; done) | (go_simp; rfl)); intro gb260 hg w18 hbox hb; have n0_ := mK (bP (by repeat (first | (with_reducible first | exact HB.out | apply bA | apply bN | apply bD) | exact HB.out)) hb); have n1_ := mK (hbox); have n2_ := mK ((by rw [hg]; exact (bZ (by repeat (first | (with_reducible first | exact HB.out | apply bA | apply bN | apply bD) | exact HB.out))) : w.heap.size ≤ gb260)); have n3_ := mK ((by rw [hg]; exact (bZ (by repeat (first | (with_reducible first | exact HB.out | apply bA | apply bN | apply bD) | exact HB.out))) : w.heap.size ≤ gb260)); clear HB; have HB := n0_; have BK260 := n1_; have GW260 := n2_; have GE260 := n3_; clear n0_ n1_ n2_ n3_; clear hb hbox hg; obtain ⟨hcz19_0, hcz19_1, hcz19_2, hcz19_3, hcz19_4, hfz19_0, hfz19_1, hfz19_2, hfz19_3, hfz19_4⟩ := cf5 BK260.out) | ((with_reducible refine gate_callee (f := 24) rfl ?_); refine goesL_ (some 28) rfl rfl Try.func24 (by kernel_rfl) rfl #[.agg #[.int .i64 t254, .int .i64 t255, .int .i64 t256, .int .i64 t257, .int .i64 t258]] rfl (by (try simp only [List.map_toArray, List.map_cons, List.map_nil]); first | done | rfl) ?_; (with_reducible refine (pascalineref02_Text.calls k t254 t255 t256 t257 t258 t261 t262 _ A10.out).mono ?_); rintro e w20 ⟨rfl, hb⟩; refine ⟨_, rfl, ?_⟩; have n0_ := mK (kB (g := gb260) (o := o5 t254 t255 t256 t257 t258 54) (by (with_reducible repeat (first | refine kN ?_ _ | refine kD ?_ | refine kA ?_ _)); refine kP (cs := #[.int .i64 t254, .int .i64 t255, .int .i64 t256, .int .i64 t257, .int .i64 0]) ?_ 4 _ rfl; (with_reducible repeat (first | refine kN ?_ _ | refine kD ?_ | refine kA ?_ _)); refine kP (cs := #[.int .i64 t254, .int .i64 t255, .int .i64 t256, .int .i64 0, .int .i64 0]) ?_ 3 _ rfl; (with_reducible repeat (first | refine kN ?_ _ | refine kD ?_ | refine kA ?_ _)); refine kP (cs := #[.int .i64 t254, .int .i64 t255, .int .i64 0, .int .i64 0, .int .i64 0]) ?_ 2 _ rfl; (with_reducible repeat (first | refine kN ?_ _ | refine kD ?_ | refine kA ?_ _)); refine kP (cs := #[.int .i64 t254, .int .i64 0, .int .i64 0, .int .i64 0, .int .i64 0]) ?_ 1 _ rfl; (with_reducible repeat (first | refine kN ?_ _ | refine kD ?_ | refine kA ?_ _)); refine kP (cs := #[.int .i64 0, .int .i64 0, .int .i64 0, .int .i64 0, .int .i64 0]) ?_ 0 _ rfl; (with_reducible repeat (first | refine kN ?_ _ | refine kD ?_ | refine kA ?_ _)); exact BK260.out) hb); have n1_ := mK (bP (by repeat (first | (with_reducible first | exact HB.out | apply bA | apply bN | apply bD | refine bS ?_ GE260.out) | exact HB.out)) hb); clear BK260; clear HB; have BK260 := n0_; have HB := n1_; clear n0_ n1_; (try clear hb); obtain ⟨hcz21_0, hcz21_1, hcz21_2, hcz21_3, hcz21_4, hfz21_0, hfz21_1, hfz21_2, hfz21_3, hfz21_4⟩ := cf5 BK260.out) | ((with_reducible refine gate_callee (f := 25) rfl ?_); refine goesL_ (some 33) rfl rfl Try.func25 (by kernel_rfl) rfl #[.int .i64 t254] rfl (by (try simp only [List.map_toArray, List.map_cons, List.map_nil]); first | done | rfl) ?_; (with_reducible refine (pascalineref06_leads.calls t254 true _ A11.out).mono ?_); rintro e w' ⟨rfl, ⟨nd, rfl⟩⟩; refine ⟨_, rfl, ?_⟩) | ((with_reducible refine gate_callee (f := 22) rfl ?_); refine goesL_ (some 43) rfl rfl Try.func22 (by kernel_rfl) rfl #[.int .u32 ((((a0 + 4) % 4294967296) + ((4 * ((t258) % 4294967296)) % 4294967296)) % 4294967296)] rfl (by (try simp only [List.map_toArray, List.map_cons, List.map_nil]); first | done | rfl) ?_; (with_reducible refine (pascalineref01_Hex.calls k ((((a0 + 4) % 4294967296) + ((4 * ((t258) % 4294967296)) % 4294967296)) % 4294967296) t264 _ A14.out).mono ?_); rintro e w' ⟨rfl, ⟨nd, rfl⟩⟩; refine ⟨_, rfl, ?_⟩))
         go_ret
         exact ⟨by first | rfl | (simp [errW_none, errW_some] <;> rfl) | (simp [*, errW_none, errW_some] <;> rfl), by repeat (first | (with_reducible first | exact HB.out | apply bA | apply bN | apply bD | refine bS ?_ GE260.out) | exact HB.out)⟩
        ·
         rw [if_neg c16] at H
         exact absurd H (by simp)
       ·
        rw [if_neg c15] at H
        exact absurd H (by simp)
      ·
       rw [if_neg c13] at H
       exact absurd H (by simp)
     ·
      replace c12 := Bool.eq_false_iff.mpr c12
      subst c12
      have H1 : (if (((t252 ++ (⟨#[32]⟩ : ByteArray)) ++ t253) ++ (⟨#[32]⟩ : ByteArray)).size + t261.size ≤ 9223372036854775807 then (some ((((t252 ++ (⟨#[32]⟩ : ByteArray)) ++ t253) ++ (⟨#[32]⟩ : ByteArray)) ++ t261)) else (none)) = some r := by rw [if_neg (show ¬ (false = true) by decide)] at H; exact H
      clear H
      have H := H1
      clear H1
      by_cases c22 : (((t252 ++ (⟨#[32]⟩ : ByteArray)) ++ t253) ++ (⟨#[32]⟩ : ByteArray)).size + t261.size ≤ 9223372036854775807
      ·
       rw [if_pos c22] at H
       have c22b0 := eq_true c22
       have c22b1 : decide ((((t252 ++ (⟨#[32]⟩ : ByteArray)) ++ t253) ++ (⟨#[32]⟩ : ByteArray)).size + t261.size ≤ 9223372036854775807) = true := decide_eq_true c22
       try have c22b2 : (9223372036854775807 < (((t252 ++ (⟨#[32]⟩ : ByteArray)) ++ t253) ++ (⟨#[32]⟩ : ByteArray)).size + t261.size) = False := eq_false (Nat.not_lt.2 c22)
       try (have c22s2 := c22b2; simp only [ByteArray.size_append, Go.Proofs.Ytfagpgpeiomnpaa.C.ba_lit, List.size_toArray, List.length_cons, List.length_nil, Nat.zero_add, Nat.reduceAdd] at c22s2)
       obtain rfl := Option.some.inj H
       go_enter Try.func10, Try.ntmps10
       go_wp2_with (first | ((with_reducible refine gate_callee (f := 22) rfl ?_); refine goesL_ (some 11) rfl rfl Try.func22 (by kernel_rfl) rfl #[.int .u32 a0] rfl (by (try simp only [List.map_toArray, List.map_cons, List.map_nil]); first | done | rfl) ?_; (with_reducible refine (pascalineref01_Hex.calls k a0 t252 _ A3.out).mono ?_); rintro e w' ⟨rfl, ⟨nd, rfl⟩⟩; refine ⟨_, rfl, ?_⟩) | ((with_reducible refine gate_callee (f := 22) rfl ?_); refine goesL_ (some 14) rfl rfl Try.func22 (by kernel_rfl) rfl #[.int .u32 a1] rfl (by (try simp only [List.map_toArray, List.map_cons, List.map_nil]); first | done | rfl) ?_; (with_reducible refine (pascalineref01_Hex.calls k a1 t253 _ A5.out).mono ?_); rintro e w' ⟨rfl, ⟨nd, rfl⟩⟩; refine ⟨_, rfl, ?_⟩) | ((with_reducible refine gate_callee (f := 23) rfl ?_); refine goesL_ (some 19) rfl rfl Try.func23 (by kernel_rfl) rfl #[.int .u32 a1] rfl (by (try simp only [List.map_toArray, List.map_cons, List.map_nil]); first | done | rfl) ?_; (with_reducible refine (pascalineref02_Decode.calls k a1 t254 t255 t256 t257 t258 t259 _ A8.out).mono ?_); rintro e w23 ⟨rfl, hb⟩; refine ⟨_, rfl, ?_⟩; have n0_ := mK (bP (by repeat (first | (with_reducible first | exact HB.out | apply bA | apply bN | apply bD) | exact HB.out)) hb); clear HB; have HB := n0_; clear n0_; (try clear hb)) | ((with_reducible refine gate_dst (N := 6) rfl ?_); refine box_event ?hg (N := 6) ?hd (cs := #[.int .i64 0, .int .i64 0, .int .i64 0, .int .i64 0, .int .i64 0]) (t := 54) ?hr ?_; (case hd => rfl); (case hg => rfl); (case hr => first | (go_simp; done) | (go_simp; rfl)); intro gb260 hg w24 hbox hb; have n0_ := mK (bP (by repeat (first | (with_reducible first | exact HB.out | apply bA | apply bN | apply bD) | exact HB.out)) hb); have n1_ := mK (hbox); have n2_ := mK ((by rw [hg]; exact (bZ (by repeat (first | (with_reducible first | exact HB.out | apply bA | apply bN | apply bD) | exact HB.out))) : w.heap.size ≤ gb260)); have n3_ := mK ((by rw [hg]; exact (bZ (by repeat (first | (with_reducible first | exact HB.out | apply bA | apply bN | apply bD) | exact HB.out))) : w.heap.size ≤ gb260)); clear HB; have HB := n0_; have BK260 := n1_; have GW260 := n2_; have GE260 := n3_; clear n0_ n1_ n2_ n3_; clear hb hbox hg; obtain ⟨hcz25_0, hcz25_1, hcz25_2, hcz25_3, hcz25_4, hfz25_0, hfz25_1, hfz25_2, hfz25_3, hfz25_4⟩ := cf5 BK260.out) | ((with_reducible refine gate_callee (f := 24) rfl ?_); refine goesL_ (some 28) rfl rfl Try.func24 (by kernel_rfl) rfl #[.agg #[.int .i64 t254, .int .i64 t255, .int .i64 t256, .int .i64 t257, .int .i64 t258]] rfl (by (try simp only [List.map_toArray, List.map_cons, List.map_nil]); first | done | rfl) ?_; (with_reducible refine (pascalineref02_Text.calls k t254 t255 t256 t257 t258 t261 t262 _ A10.out).mono ?_); rintro e w26 ⟨rfl, hb⟩; refine ⟨_, rfl, ?_⟩; have n0_ := mK (kB (g := gb260) (o := o5 t254 t255 t256 t257 t258 54) (by (with_reducible repeat (first | refine kN ?_ _ | refine kD ?_ | refine kA ?_ _)); refine kP (cs := #[.int .i64 t254, .int .i64 t255, .int .i64 t256, .int .i64 t257, .int .i64 0]) ?_ 4 _ rfl; (with_reducible repeat (first | refine kN ?_ _ | refine kD ?_ | refine kA ?_ _)); refine kP (cs := #[.int .i64 t254, .int .i64 t255, .int .i64 t256, .int .i64 0, .int .i64 0]) ?_ 3 _ rfl; (with_reducible repeat (first | refine kN ?_ _ | refine kD ?_ | refine kA ?_ _)); refine kP (cs := #[.int .i64 t254, .int .i64 t255, .int .i64 0, .int .i64 0, .int .i64 0]) ?_ 2 _ rfl; (with_reducible repeat (first | refine kN ?_ _ | refine kD ?_ | refine kA ?_ _)); refine kP (cs := #[.int .i64 t254, .int .i64 0, .int .i64 0, .int .i64 0, .int .i64 0]) ?_ 1 _ rfl; (with_reducible repeat (first | refine kN ?_ _ | refine kD ?_ | refine kA ?_ _)); refine kP (cs := #[.int .i64 0, .int .i64 0, .int .i64 0, .int .i64 0, .int .i64 0]) ?_ 0 _ rfl; (with_reducible repeat (first | refine kN ?_ _ | refine kD ?_ | refine kA ?_ _)); exact BK260.out) hb); have n1_ := mK (bP (by repeat (first | (with_reducible first | exact HB.out | apply bA | apply bN | apply bD | refine bS ?_ GE260.out) | exact HB.out)) hb); clear BK260; clear HB; have BK260 := n0_; have HB := n1_; clear n0_ n1_; (try clear hb); obtain ⟨hcz27_0, hcz27_1, hcz27_2, hcz27_3, hcz27_4, hfz27_0, hfz27_1, hfz27_2, hfz27_3, hfz27_4⟩ := cf5 BK260.out) | ((with_reducible refine gate_callee (f := 25) rfl ?_); refine goesL_ (some 33) rfl rfl Try.func25 (by kernel_rfl) rfl #[.int .i64 t254] rfl (by (try simp only [List.map_toArray, List.map_cons, List.map_nil]); first | done | rfl) ?_; (with_reducible refine (pascalineref06_leads.calls t254 false _ A11.out).mono ?_); rintro e w' ⟨rfl, ⟨nd, rfl⟩⟩; refine ⟨_, rfl, ?_⟩))
       go_ret
       exact ⟨by first | rfl | (simp [errW_none, errW_some] <;> rfl) | (simp [*, errW_none, errW_some] <;> rfl), by repeat (first | (with_reducible first | exact HB.out | apply bA | apply bN | apply bD | refine bS ?_ GE260.out) | exact HB.out)⟩
      ·
       rw [if_neg c22] at H
       exact absurd H (by simp)
    ·
     rw [if_neg c9] at H
     have c9b0 : (t259 == 0) = false := bQ c9
     have c9b1 : (t259 != 0) = true := bne_iff_ne.mpr c9
     by_cases c28 : (((t252 ++ (⟨#[32]⟩ : ByteArray)) ++ t253) ++ (⟨#[32]⟩ : ByteArray)).size + 1 ≤ 9223372036854775807
     ·
      rw [if_pos c28] at H
      have c28b0 := eq_true c28
      have c28b1 : decide ((((t252 ++ (⟨#[32]⟩ : ByteArray)) ++ t253) ++ (⟨#[32]⟩ : ByteArray)).size + 1 ≤ 9223372036854775807) = true := decide_eq_true c28
      try have c28b2 : (9223372036854775807 < (((t252 ++ (⟨#[32]⟩ : ByteArray)) ++ t253) ++ (⟨#[32]⟩ : ByteArray)).size + 1) = False := eq_false (Nat.not_lt.2 c28)
      try (have c28s2 := c28b2; simp only [ByteArray.size_append, Go.Proofs.Ytfagpgpeiomnpaa.C.ba_lit, List.size_toArray, List.length_cons, List.length_nil, Nat.zero_add, Nat.reduceAdd] at c28s2)
      obtain rfl := Option.some.inj H
      go_enter Try.func10, Try.ntmps10
      go_wp2_with (first | ((with_reducible refine gate_callee (f := 22) rfl ?_); refine goesL_ (some 11) rfl rfl Try.func22 (by kernel_rfl) rfl #[.int .u32 a0] rfl (by (try simp only [List.map_toArray, List.map_cons, List.map_nil]); first | done | rfl) ?_; (with_reducible refine (pascalineref01_Hex.calls k a0 t252 _ A3.out).mono ?_); rintro e w' ⟨rfl, ⟨nd, rfl⟩⟩; refine ⟨_, rfl, ?_⟩) | ((with_reducible refine gate_callee (f := 22) rfl ?_); refine goesL_ (some 14) rfl rfl Try.func22 (by kernel_rfl) rfl #[.int .u32 a1] rfl (by (try simp only [List.map_toArray, List.map_cons, List.map_nil]); first | done | rfl) ?_; (with_reducible refine (pascalineref01_Hex.calls k a1 t253 _ A5.out).mono ?_); rintro e w' ⟨rfl, ⟨nd, rfl⟩⟩; refine ⟨_, rfl, ?_⟩) | ((with_reducible refine gate_callee (f := 23) rfl ?_); refine goesL_ (some 19) rfl rfl Try.func23 (by kernel_rfl) rfl #[.int .u32 a1] rfl (by (try simp only [List.map_toArray, List.map_cons, List.map_nil]); first | done | rfl) ?_; (with_reducible refine (pascalineref02_Decode.calls k a1 t254 t255 t256 t257 t258 t259 _ A8.out).mono ?_); rintro e w29 ⟨rfl, hb⟩; refine ⟨_, rfl, ?_⟩; have n0_ := mK (bP (by repeat (first | (with_reducible first | exact HB.out | apply bA | apply bN | apply bD) | exact HB.out)) hb); clear HB; have HB := n0_; clear n0_; (try clear hb)) | ((with_reducible refine gate_dst (N := 6) rfl ?_); refine box_event ?hg (N := 6) ?hd (cs := #[.int .i64 0, .int .i64 0, .int .i64 0, .int .i64 0, .int .i64 0]) (t := 54) ?hr ?_; (case hd => rfl); (case hg => rfl); (case hr => first | (go_simp; done) | (go_simp; rfl)); intro gb260 hg w30 hbox hb; have n0_ := mK (bP (by repeat (first | (with_reducible first | exact HB.out | apply bA | apply bN | apply bD) | exact HB.out)) hb); have n1_ := mK (hbox); have n2_ := mK ((by rw [hg]; exact (bZ (by repeat (first | (with_reducible first | exact HB.out | apply bA | apply bN | apply bD) | exact HB.out))) : w.heap.size ≤ gb260)); have n3_ := mK ((by rw [hg]; exact (bZ (by repeat (first | (with_reducible first | exact HB.out | apply bA | apply bN | apply bD) | exact HB.out))) : w.heap.size ≤ gb260)); clear HB; have HB := n0_; have BK260 := n1_; have GW260 := n2_; have GE260 := n3_; clear n0_ n1_ n2_ n3_; clear hb hbox hg; obtain ⟨hcz31_0, hcz31_1, hcz31_2, hcz31_3, hcz31_4, hfz31_0, hfz31_1, hfz31_2, hfz31_3, hfz31_4⟩ := cf5 BK260.out))
      go_ret
      exact ⟨by first | rfl | (simp [errW_none, errW_some] <;> rfl) | (simp [*, errW_none, errW_some] <;> rfl), by repeat (first | (with_reducible first | exact HB.out | apply bA | apply bN | apply bD | refine bS ?_ GE260.out) | exact HB.out)⟩
     ·
      rw [if_neg c28] at H
      exact absurd H (by simp)
   ·
    rw [if_neg c7] at H
    exact absurd H (by simp)
  ·
   rw [if_neg c6] at H
   exact absurd H (by simp)
 ·
  rw [if_neg c4] at H
  exact absurd H (by simp)

end Go.Proofs.Ytfagpgpeiomnpaa.P

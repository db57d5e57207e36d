/- Printed parts. -/
import Derived.Test.YtfagpgpeiomnpaaPx0
import Derived.Test.YtfagpgpeiomnpaaPx1
import Derived.Test.YtfagpgpeiomnpaaPx12
import Derived.Test.YtfagpgpeiomnpaaPx17
-- Written by a program of this session (wip/tools/hp.py) out of the translation.
namespace Go.Proofs.Ytfagpgpeiomnpaa.P
open Go.RowKit Go.Proofs.YtfagpgpeiomnpaaW.PrintWords Go.Proofs.YtfagpgpeiomnpaaW.PrintLast Go.Proofs.YtfagpgpeiomnpaaW.PrintMore
attribute [local go_sem] max2_int min2_int max_two min_two max_three min_three max_four min_four   -- for this text's walks alone
set_option linter.unusedVariables false
set_option linter.unusedSimpArgs false

/-! ### listing_Line: function 9 -/
def listing_Line.f (k : Nat) (a0 : Int) (a1 : Int) : Option (ByteArray) := (word_Hex.f a0).bind fun t172 => (if t172.size + 1 ≤ 9223372036854775807 then ((word_Hex.f a1).bind fun t173 => (if (t172 ++ (⟨#[32]⟩ : ByteArray)).size + t173.size ≤ 9223372036854775807 then (if ((t172 ++ (⟨#[32]⟩ : ByteArray)) ++ t173).size + 1 ≤ 9223372036854775807 then ((instr_Decode.f k a1).bind fun bt174 => (if bt174.2.2.2.2.2 = 0 then ((instr_Text.f k bt174.1 bt174.2.1 bt174.2.2.1 bt174.2.2.2.1 bt174.2.2.2.2.1).bind fun bt181 => (if (((t172 ++ (⟨#[32]⟩ : ByteArray)) ++ t173) ++ (⟨#[32]⟩ : ByteArray)).size + bt181.1.size ≤ 9223372036854775807 then ((listing_Target.f a0 bt174.1 bt174.2.1 bt174.2.2.1 bt174.2.2.2.1 bt174.2.2.2.2.1).bind fun bt183 => (if bt183.2 = true then ((word_Hex.f bt183.1).bind fun t185 => (if 4 + t185.size ≤ 9223372036854775807 then (if ((((t172 ++ (⟨#[32]⟩ : ByteArray)) ++ t173) ++ (⟨#[32]⟩ : ByteArray)) ++ bt181.1).size + ((⟨#[32, 45, 62, 32]⟩ : ByteArray) ++ t185).size ≤ 9223372036854775807 then (some (((((t172 ++ (⟨#[32]⟩ : ByteArray)) ++ t173) ++ (⟨#[32]⟩ : ByteArray)) ++ bt181.1) ++ ((⟨#[32, 45, 62, 32]⟩ : ByteArray) ++ t185))) else (none)) else (none))) else (some ((((t172 ++ (⟨#[32]⟩ : ByteArray)) ++ t173) ++ (⟨#[32]⟩ : ByteArray)) ++ bt181.1)))) else (none))) else (if (((t172 ++ (⟨#[32]⟩ : ByteArray)) ++ t173) ++ (⟨#[32]⟩ : ByteArray)).size + 1 ≤ 9223372036854775807 then (some ((((t172 ++ (⟨#[32]⟩ : ByteArray)) ++ t173) ++ (⟨#[32]⟩ : ByteArray)) ++ (⟨#[63]⟩ : ByteArray))) else (none)))) else (none)) else (none))) else (none))
theorem listing_Line.mono : ∀ a0 a1 k, LeO (listing_Line.f k a0 a1) (listing_Line.f (k + 1) a0 a1) := by
 intro a0 a1 k
 unfold listing_Line.f
 repeat' first
   | (with_reducible exact instr_Decode.mono _ _)
   | (with_reducible exact instr_Text.mono _ _ _ _ _ _)
   | (with_reducible exact LeO.refl _)
   | (with_reducible exact LeO.none _)
   | (with_reducible refine LeO.ite ?_ ?_)
   | (with_reducible refine LeO.bind ?_ (fun _ => ?_))
   | exact instr_Decode.mono _ _
   | exact instr_Text.mono _ _ _ _ _ _
   | exact LeO.none _
   | refine LeO.ite ?_ ?_
   | refine LeO.bind ?_ (fun _ => ?_)
set_option maxHeartbeats 8000000 in
set_option maxRecDepth 100000 in
theorem listing_Line.calls (k : Nat) (a0 : Int) (a1 : Int) (r : ByteArray) (w : World) (h : listing_Line.f k a0 a1 = some r) :
  Calls Try.prog 9 #[.int .u32 a0, .int .u32 a1] w fun e w' => e = .returned (.string r) ∧ Below w.heap.size w w' := by
 have hu24 := Try.underlying24
 have HB := Aside0.mk (Below.refl w.heap.size w)
 have H : ((word_Hex.f a0).bind fun t172 => (if t172.size + 1 ≤ 9223372036854775807 then ((word_Hex.f a1).bind fun t173 => (if (t172 ++ (⟨#[32]⟩ : ByteArray)).size + t173.size ≤ 9223372036854775807 then (if ((t172 ++ (⟨#[32]⟩ : ByteArray)) ++ t173).size + 1 ≤ 9223372036854775807 then ((instr_Decode.f k a1).bind fun bt174 => (if bt174.2.2.2.2.2 = 0 then ((instr_Text.f k bt174.1 bt174.2.1 bt174.2.2.1 bt174.2.2.2.1 bt174.2.2.2.2.1).bind fun bt181 => (if (((t172 ++ (⟨#[32]⟩ : ByteArray)) ++ t173) ++ (⟨#[32]⟩ : ByteArray)).size + bt181.1.size ≤ 9223372036854775807 then ((listing_Target.f a0 bt174.1 bt174.2.1 bt174.2.2.1 bt174.2.2.2.1 bt174.2.2.2.2.1).bind fun bt183 => (if bt183.2 = true then ((word_Hex.f bt183.1).bind fun t185 => (if 4 + t185.size ≤ 9223372036854775807 then (if ((((t172 ++ (⟨#[32]⟩ : ByteArray)) ++ t173) ++ (⟨#[32]⟩ : ByteArray)) ++ bt181.1).size + ((⟨#[32, 45, 62, 32]⟩ : ByteArray) ++ t185).size ≤ 9223372036854775807 then (some (((((t172 ++ (⟨#[32]⟩ : ByteArray)) ++ t173) ++ (⟨#[32]⟩ : ByteArray)) ++ bt181.1) ++ ((⟨#[32, 45, 62, 32]⟩ : ByteArray) ++ t185))) else (none)) else (none))) else (some ((((t172 ++ (⟨#[32]⟩ : ByteArray)) ++ t173) ++ (⟨#[32]⟩ : ByteArray)) ++ bt181.1)))) else (none))) else (if (((t172 ++ (⟨#[32]⟩ : ByteArray)) ++ t173) ++ (⟨#[32]⟩ : ByteArray)).size + 1 ≤ 9223372036854775807 then (some ((((t172 ++ (⟨#[32]⟩ : ByteArray)) ++ t173) ++ (⟨#[32]⟩ : ByteArray)) ++ (⟨#[63]⟩ : ByteArray))) else (none)))) else (none)) else (none))) else (none))) = some r := h
 clear h
 replace H := Option.bind_eq_some_iff.mp H
 obtain ⟨t172, A30, H⟩ := H
 replace H : (if t172.size + 1 ≤ 9223372036854775807 then ((word_Hex.f a1).bind fun t173 => (if (t172 ++ (⟨#[32]⟩ : ByteArray)).size + t173.size ≤ 9223372036854775807 then (if ((t172 ++ (⟨#[32]⟩ : ByteArray)) ++ t173).size + 1 ≤ 9223372036854775807 then ((instr_Decode.f k a1).bind fun bt174 => (if bt174.2.2.2.2.2 = 0 then ((instr_Text.f k bt174.1 bt174.2.1 bt174.2.2.1 bt174.2.2.2.1 bt174.2.2.2.2.1).bind fun bt181 => (if (((t172 ++ (⟨#[32]⟩ : ByteArray)) ++ t173) ++ (⟨#[32]⟩ : ByteArray)).size + bt181.1.size ≤ 9223372036854775807 then ((listing_Target.f a0 bt174.1 bt174.2.1 bt174.2.2.1 bt174.2.2.2.1 bt174.2.2.2.2.1).bind fun bt183 => (if bt183.2 = true then ((word_Hex.f bt183.1).bind fun t185 => (if 4 + t185.size ≤ 9223372036854775807 then (if ((((t172 ++ (⟨#[32]⟩ : ByteArray)) ++ t173) ++ (⟨#[32]⟩ : ByteArray)) ++ bt181.1).size + ((⟨#[32, 45, 62, 32]⟩ : ByteArray) ++ t185).size ≤ 9223372036854775807 then (some (((((t172 ++ (⟨#[32]⟩ : ByteArray)) ++ t173) ++ (⟨#[32]⟩ : ByteArray)) ++ bt181.1) ++ ((⟨#[32, 45, 62, 32]⟩ : ByteArray) ++ t185))) else (none)) else (none))) else (some ((((t172 ++ (⟨#[32]⟩ : ByteArray)) ++ t173) ++ (⟨#[32]⟩ : ByteArray)) ++ bt181.1)))) else (none))) else (if (((t172 ++ (⟨#[32]⟩ : ByteArray)) ++ t173) ++ (⟨#[32]⟩ : ByteArray)).size + 1 ≤ 9223372036854775807 then (some ((((t172 ++ (⟨#[32]⟩ : ByteArray)) ++ t173) ++ (⟨#[32]⟩ : ByteArray)) ++ (⟨#[63]⟩ : ByteArray))) else (none)))) else (none)) else (none))) else (none)) = some r := H
 have A3 := Aside0.mk A30
 clear A30
 by_cases c4 : t172.size + 1 ≤ 9223372036854775807
 ·
  rw [if_pos c4] at H
  have c4b0 := eq_true c4
  have c4b1 : decide (t172.size + 1 ≤ 9223372036854775807) = true := decide_eq_true c4
  try have c4b2 : (9223372036854775807 < t172.size + 1) = False := eq_false (Nat.not_lt.2 c4)
  try (have c4s2 := c4b2; simp only [ByteArray.size_append, Go.Proofs.Ytfagpgpeiomnpaa.C.ba_lit, List.size_toArray, List.length_cons, List.length_nil, Nat.zero_add, Nat.reduceAdd] at c4s2)
  replace H := Option.bind_eq_some_iff.mp H
  obtain ⟨t173, A50, H⟩ := H
  replace H : (if (t172 ++ (⟨#[32]⟩ : ByteArray)).size + t173.size ≤ 9223372036854775807 then (if ((t172 ++ (⟨#[32]⟩ : ByteArray)) ++ t173).size + 1 ≤ 9223372036854775807 then ((instr_Decode.f k a1).bind fun bt174 => (if bt174.2.2.2.2.2 = 0 then ((instr_Text.f k bt174.1 bt174.2.1 bt174.2.2.1 bt174.2.2.2.1 bt174.2.2.2.2.1).bind fun bt181 => (if (((t172 ++ (⟨#[32]⟩ : ByteArray)) ++ t173) ++ (⟨#[32]⟩ : ByteArray)).size + bt181.1.size ≤ 9223372036854775807 then ((listing_Target.f a0 bt174.1 bt174.2.1 bt174.2.2.1 bt174.2.2.2.1 bt174.2.2.2.2.1).bind fun bt183 => (if bt183.2 = true then ((word_Hex.f bt183.1).bind fun t185 => (if 4 + t185.size ≤ 9223372036854775807 then (if ((((t172 ++ (⟨#[32]⟩ : ByteArray)) ++ t173) ++ (⟨#[32]⟩ : ByteArray)) ++ bt181.1).size + ((⟨#[32, 45, 62, 32]⟩ : ByteArray) ++ t185).size ≤ 9223372036854775807 then (some (((((t172 ++ (⟨#[32]⟩ : ByteArray)) ++ t173) ++ (⟨#[32]⟩ : ByteArray)) ++ bt181.1) ++ ((⟨#[32, 45, 62, 32]⟩ : ByteArray) ++ t185))) else (none)) else (none))) else (some ((((t172 ++ (⟨#[32]⟩ : ByteArray)) ++ t173) ++ (⟨#[32]⟩ : ByteArray)) ++ bt181.1)))) else (none))) else (if (((t172 ++ (⟨#[32]⟩ : ByteArray)) ++ t173) ++ (⟨#[32]⟩ : ByteArray)).size + 1 ≤ 9223372036854775807 then (some ((((t172 ++ (⟨#[32]⟩ : ByteArray)) ++ t173) ++ (⟨#[32]⟩ : ByteArray)) ++ (⟨#[63]⟩ : ByteArray))) else (none)))) else (none)) else (none)) = some r := H
  have A5 := Aside0.mk A50
  clear A50
  by_cases c6 : (t172 ++ (⟨#[32]⟩ : ByteArray)).size + t173.size ≤ 9223372036854775807
  ·
   rw [if_pos c6] at H
   have c6b0 := eq_true c6
   have c6b1 : decide ((t172 ++ (⟨#[32]⟩ : ByteArray)).size + t173.size ≤ 9223372036854775807) = true := decide_eq_true c6
   try have c6b2 : (9223372036854775807 < (t172 ++ (⟨#[32]⟩ : ByteArray)).size + t173.size) = False := eq_false (Nat.not_lt.2 c6)
   try (have c6s2 := c6b2; simp only [ByteArray.size_append, Go.Proofs.Ytfagpgpeiomnpaa.C.ba_lit, List.size_toArray, List.length_cons, List.length_nil, Nat.zero_add, Nat.reduceAdd] at c6s2)
   by_cases c7 : ((t172 ++ (⟨#[32]⟩ : ByteArray)) ++ t173).size + 1 ≤ 9223372036854775807
   ·
    rw [if_pos c7] at H
    have c7b0 := eq_true c7
    have c7b1 : decide (((t172 ++ (⟨#[32]⟩ : ByteArray)) ++ t173).size + 1 ≤ 9223372036854775807) = true := decide_eq_true c7
    try have c7b2 : (9223372036854775807 < ((t172 ++ (⟨#[32]⟩ : ByteArray)) ++ t173).size + 1) = False := eq_false (Nat.not_lt.2 c7)
    try (have c7s2 := c7b2; simp only [ByteArray.size_append, Go.Proofs.Ytfagpgpeiomnpaa.C.ba_lit, List.size_toArray, List.length_cons, List.length_nil, Nat.zero_add, Nat.reduceAdd] at c7s2)
    replace H := Option.bind_eq_some_iff.mp H
    obtain ⟨⟨t174, t175, t176, t177, t178, t179⟩, A80, H⟩ := H
    replace H : (if t179 = 0 then ((instr_Text.f k t174 t175 t176 t177 t178).bind fun bt181 => (if (((t172 ++ (⟨#[32]⟩ : ByteArray)) ++ t173) ++ (⟨#[32]⟩ : ByteArray)).size + bt181.1.size ≤ 9223372036854775807 then ((listing_Target.f a0 t174 t175 t176 t177 t178).bind fun bt183 => (if bt183.2 = true then ((word_Hex.f bt183.1).bind fun t185 => (if 4 + t185.size ≤ 9223372036854775807 then (if ((((t172 ++ (⟨#[32]⟩ : ByteArray)) ++ t173) ++ (⟨#[32]⟩ : ByteArray)) ++ bt181.1).size + ((⟨#[32, 45, 62, 32]⟩ : ByteArray) ++ t185).size ≤ 9223372036854775807 then (some (((((t172 ++ (⟨#[32]⟩ : ByteArray)) ++ t173) ++ (⟨#[32]⟩ : ByteArray)) ++ bt181.1) ++ ((⟨#[32, 45, 62, 32]⟩ : ByteArray) ++ t185))) else (none)) else (none))) else (some ((((t172 ++ (⟨#[32]⟩ : ByteArray)) ++ t173) ++ (⟨#[32]⟩ : ByteArray)) ++ bt181.1)))) else (none))) else (if (((t172 ++ (⟨#[32]⟩ : ByteArray)) ++ t173) ++ (⟨#[32]⟩ : ByteArray)).size + 1 ≤ 9223372036854775807 then (some ((((t172 ++ (⟨#[32]⟩ : ByteArray)) ++ t173) ++ (⟨#[32]⟩ : ByteArray)) ++ (⟨#[63]⟩ : ByteArray))) else (none))) = some r := H
    have A8 := Aside0.mk A80
    clear A80
    by_cases c9 : t179 = 0
    ·
     rw [if_pos c9] at H
     have c9b0 : (t179 == 0) = true := beq_iff_eq.mpr c9
     have c9b1 : (t179 != 0) = false := bne_eq_false_iff_eq.mpr c9
     clear c9
     replace H := Option.bind_eq_some_iff.mp H
     obtain ⟨⟨t181, t182⟩, A100, H⟩ := H
     replace H : (if (((t172 ++ (⟨#[32]⟩ : ByteArray)) ++ t173) ++ (⟨#[32]⟩ : ByteArray)).size + t181.size ≤ 9223372036854775807 then ((listing_Target.f a0 t174 t175 t176 t177 t178).bind fun bt183 => (if bt183.2 = true then ((word_Hex.f bt183.1).bind fun t185 => (if 4 + t185.size ≤ 9223372036854775807 then (if ((((t172 ++ (⟨#[32]⟩ : ByteArray)) ++ t173) ++ (⟨#[32]⟩ : ByteArray)) ++ t181).size + ((⟨#[32, 45, 62, 32]⟩ : ByteArray) ++ t185).size ≤ 9223372036854775807 then (some (((((t172 ++ (⟨#[32]⟩ : ByteArray)) ++ t173) ++ (⟨#[32]⟩ : ByteArray)) ++ t181) ++ ((⟨#[32, 45, 62, 32]⟩ : ByteArray) ++ t185))) else (none)) else (none))) else (some ((((t172 ++ (⟨#[32]⟩ : ByteArray)) ++ t173) ++ (⟨#[32]⟩ : ByteArray)) ++ t181)))) else (none)) = some r := H
     have A10 := Aside0.mk A100
     clear A100
     by_cases c11 : (((t172 ++ (⟨#[32]⟩ : ByteArray)) ++ t173) ++ (⟨#[32]⟩ : ByteArray)).size + t181.size ≤ 9223372036854775807
     ·
      rw [if_pos c11] at H
      have c11b0 := eq_true c11
      have c11b1 : decide ((((t172 ++ (⟨#[32]⟩ : ByteArray)) ++ t173) ++ (⟨#[32]⟩ : ByteArray)).size + t181.size ≤ 9223372036854775807) = true := decide_eq_true c11
      try have c11b2 : (9223372036854775807 < (((t172 ++ (⟨#[32]⟩ : ByteArray)) ++ t173) ++ (⟨#[32]⟩ : ByteArray)).size + t181.size) = False := eq_false (Nat.not_lt.2 c11)
      try (have c11s2 := c11b2; simp only [ByteArray.size_append, Go.Proofs.Ytfagpgpeiomnpaa.C.ba_lit, List.size_toArray, List.length_cons, List.length_nil, Nat.zero_add, Nat.reduceAdd] at c11s2)
      replace H := Option.bind_eq_some_iff.mp H
      obtain ⟨⟨t183, t184⟩, A120, H⟩ := H
      replace H : (if t184 = true then ((word_Hex.f t183).bind fun t185 => (if 4 + t185.size ≤ 9223372036854775807 then (if ((((t172 ++ (⟨#[32]⟩ : ByteArray)) ++ t173) ++ (⟨#[32]⟩ : ByteArray)) ++ t181).size + ((⟨#[32, 45, 62, 32]⟩ : ByteArray) ++ t185).size ≤ 9223372036854775807 then (some (((((t172 ++ (⟨#[32]⟩ : ByteArray)) ++ t173) ++ (⟨#[32]⟩ : ByteArray)) ++ t181) ++ ((⟨#[32, 45, 62, 32]⟩ : ByteArray) ++ t185))) else (none)) else (none))) else (some ((((t172 ++ (⟨#[32]⟩ : ByteArray)) ++ t173) ++ (⟨#[32]⟩ : ByteArray)) ++ t181))) = some r := H
      have A12 := Aside0.mk A120
      clear A120
      by_cases c13 : t184 = true
      ·
       subst c13
       have H1 : ((word_Hex.f t183).bind fun t185 => (if 4 + t185.size ≤ 9223372036854775807 then (if ((((t172 ++ (⟨#[32]⟩ : ByteArray)) ++ t173) ++ (⟨#[32]⟩ : ByteArray)) ++ t181).size + ((⟨#[32, 45, 62, 32]⟩ : ByteArray) ++ t185).size ≤ 9223372036854775807 then (some (((((t172 ++ (⟨#[32]⟩ : ByteArray)) ++ t173) ++ (⟨#[32]⟩ : ByteArray)) ++ t181) ++ ((⟨#[32, 45, 62, 32]⟩ : ByteArray) ++ t185))) else (none)) else (none))) = some r := by rw [if_pos rfl] at H; exact H
       clear H
       have H := H1
       clear H1
       replace H := Option.bind_eq_some_iff.mp H
       obtain ⟨t185, A140, H⟩ := H
       replace H : (if 4 + t185.size ≤ 9223372036854775807 then (if ((((t172 ++ (⟨#[32]⟩ : ByteArray)) ++ t173) ++ (⟨#[32]⟩ : ByteArray)) ++ t181).size + ((⟨#[32, 45, 62, 32]⟩ : ByteArray) ++ t185).size ≤ 9223372036854775807 then (some (((((t172 ++ (⟨#[32]⟩ : ByteArray)) ++ t173) ++ (⟨#[32]⟩ : ByteArray)) ++ t181) ++ ((⟨#[32, 45, 62, 32]⟩ : ByteArray) ++ t185))) else (none)) else (none)) = some r := H
       have A14 := Aside0.mk A140
       clear A140
       by_cases c15 : 4 + t185.size ≤ 9223372036854775807
       ·
        rw [if_pos c15] at H
        have c15b0 := eq_true c15
        have c15b1 : decide (4 + t185.size ≤ 9223372036854775807) = true := decide_eq_true c15
        try have c15b2 : (9223372036854775807 < 4 + t185.size) = False := eq_false (Nat.not_lt.2 c15)
        try (have c15s2 := c15b2; simp only [ByteArray.size_append, Go.Proofs.Ytfagpgpeiomnpaa.C.ba_lit, List.size_toArray, List.length_cons, List.length_nil, Nat.zero_add, Nat.reduceAdd] at c15s2)
        by_cases c16 : ((((t172 ++ (⟨#[32]⟩ : ByteArray)) ++ t173) ++ (⟨#[32]⟩ : ByteArray)) ++ t181).size + ((⟨#[32, 45, 62, 32]⟩ : ByteArray) ++ t185).size ≤ 9223372036854775807
        ·
         rw [if_pos c16] at H
         have c16b0 := eq_true c16
         have c16b1 : decide (((((t172 ++ (⟨#[32]⟩ : ByteArray)) ++ t173) ++ (⟨#[32]⟩ : ByteArray)) ++ t181).size + ((⟨#[32, 45, 62, 32]⟩ : ByteArray) ++ t185).size ≤ 9223372036854775807) = true := decide_eq_true c16
         try have c16b2 : (9223372036854775807 < ((((t172 ++ (⟨#[32]⟩ : ByteArray)) ++ t173) ++ (⟨#[32]⟩ : ByteArray)) ++ t181).size + ((⟨#[32, 45, 62, 32]⟩ : ByteArray) ++ t185).size) = False := eq_false (Nat.not_lt.2 c16)
         try (have c16s2 := c16b2; simp only [ByteArray.size_append, Go.Proofs.Ytfagpgpeiomnpaa.C.ba_lit, List.size_toArray, List.length_cons, List.length_nil, Nat.zero_add, Nat.reduceAdd] at c16s2)
         obtain rfl := Option.some.inj H
         go_enter Try.func9, Try.ntmps9
         go_wp2_with (first | ((with_reducible refine gate_callee (f := 19) rfl ?_); refine goesL_ (some 13) rfl rfl Try.func19 (by kernel_rfl) rfl #[.int .u32 a0] rfl (by (try simp only [List.map_toArray, List.map_cons, List.map_nil]); first | done | rfl | (simp only [List.length_drop, List.length_take]; rfl)) ?_; (with_reducible refine (word_Hex.calls a0 t172 _ A3.out).mono ?_); rintro e w17 ⟨rfl, hb⟩; refine ⟨_, rfl, ?_⟩; have n0_ := Aside0.mk (below_step (by repeat (first | (with_reducible first | exact HB.out | apply below_alloc | apply pw_below_drewN | apply below_drew1) | exact HB.out)) hb); clear HB; have HB := n0_; clear n0_; (try clear hb); (try clear hb2); (try clear hk); (try clear hi)) | ((with_reducible refine gate_callee (f := 19) rfl ?_); refine goesL_ (some 16) rfl rfl Try.func19 (by kernel_rfl) rfl #[.int .u32 a1] rfl (by (try simp only [List.map_toArray, List.map_cons, List.map_nil]); first | done | rfl | (simp only [List.length_drop, List.length_take]; rfl)) ?_; (with_reducible refine (word_Hex.calls a1 t173 _ A5.out).mono ?_); rintro e w18 ⟨rfl, hb⟩; refine ⟨_, rfl, ?_⟩; have n0_ := Aside0.mk (below_step (by repeat (first | (with_reducible first | exact HB.out | apply below_alloc | apply pw_below_drewN | apply below_drew1) | exact HB.out)) hb); clear HB; have HB := n0_; clear n0_; (try clear hb); (try clear hb2); (try clear hk); (try clear hi)) | ((with_reducible refine gate_callee (f := 20) rfl ?_); refine goesL_ (some 21) rfl rfl Try.func20 (by kernel_rfl) rfl #[.int .u32 a1] rfl (by (try simp only [List.map_toArray, List.map_cons, List.map_nil]); first | done | rfl | (simp only [List.length_drop, List.length_take]; rfl)) ?_; (with_reducible refine (instr_Decode.calls k a1 t174 t175 t176 t177 t178 t179 _ A8.out).mono ?_); rintro e w19 ⟨rfl, hb⟩; refine ⟨_, rfl, ?_⟩; have n0_ := Aside0.mk (below_step (by repeat (first | (with_reducible first | exact HB.out | apply below_alloc | apply pw_below_drewN | apply below_drew1) | exact HB.out)) hb); clear HB; have HB := n0_; clear n0_; (try clear hb); (try clear hb2); (try clear hk); (try clear hi)) | ((with_reducible refine gate_dst (N := 6) rfl ?_); refine box_event ?hg (N := 6) ?hd (cs := #[.int .i64 0, .int .i64 0, .int .i64 0, .int .i64 0, .int .i64 0]) (t := 24) ?hr ?_; (case hd => rfl); (case hg => rfl); (case hr => first | (go_simp; done) | (go_simp; rfl)); intro gb180 hg w20 hbox hb; have n0_ := Aside0.mk (below_step (by repeat (first | (with_reducible first | exact HB.out | apply below_alloc | apply pw_below_drewN | apply below_drew1) | exact HB.out)) hb); have n1_ := Aside0.mk (hbox); have n2_ := Aside0.mk ((by rw [hg]; exact (below_size (by repeat (first | (with_reducible first | exact HB.out | apply below_alloc | apply pw_below_drewN | apply below_drew1) | exact HB.out))) : w.heap.size ≤ gb180)); have n3_ := Aside0.mk ((by rw [hg]; exact (below_size (by repeat (first | (with_reducible first | exact HB.out | apply below_alloc | apply pw_below_drewN | apply below_drew1) | exact HB.out))) : w.heap.size ≤ gb180)); clear HB; have HB := n0_; have BK180 := n1_; have GW180 := n2_; have GE180 := n3_; clear n0_ n1_ n2_ n3_; clear hb hbox hg; have hcz21_0 : w20.cell? ⟨gb180, 0, none⟩ = some (.int .i64 0) := (blk_cell BK180.out 0).trans rfl; have hcz21_1 : w20.cell? ⟨gb180, 1, none⟩ = some (.int .i64 0) := (blk_cell BK180.out 1).trans rfl; have hcz21_2 : w20.cell? ⟨gb180, 2, none⟩ = some (.int .i64 0) := (blk_cell BK180.out 2).trans rfl; have hcz21_3 : w20.cell? ⟨gb180, 3, none⟩ = some (.int .i64 0) := (blk_cell BK180.out 3).trans rfl; have hcz21_4 : w20.cell? ⟨gb180, 4, none⟩ = some (.int .i64 0) := (blk_cell BK180.out 4).trans rfl; have hfz21_0 := blk_frozen BK180.out 0; have hfz21_1 := blk_frozen BK180.out 1; have hfz21_2 := blk_frozen BK180.out 2; have hfz21_3 := blk_frozen BK180.out 3; have hfz21_4 := blk_frozen BK180.out 4) | ((with_reducible refine gate_callee (f := 21) rfl ?_); refine goesL_ (some 30) rfl rfl Try.func21 (by kernel_rfl) rfl #[.agg #[.int .i64 t174, .int .i64 t175, .int .i64 t176, .int .i64 t177, .int .i64 t178]] rfl (by (try simp only [List.map_toArray, List.map_cons, List.map_nil]); first | done | rfl | (simp only [List.length_drop, List.length_take]; rfl)) ?_; (with_reducible refine (instr_Text.calls k t174 t175 t176 t177 t178 t181 t182 _ A10.out).mono ?_); rintro e w22 ⟨rfl, hb⟩; refine ⟨_, rfl, ?_⟩; have n0_ := Aside0.mk (blk_below (g := gb180) (o := .cells #[.int .i64 t174, .int .i64 t175, .int .i64 t176, .int .i64 t177, .int .i64 t178] 24 (0, 0)) (by (with_reducible repeat (first | refine blk_drewN ?_ _ | refine blk_drew ?_ | refine blk_alloc ?_ _)); refine blk_put (cs := #[.int .i64 t174, .int .i64 t175, .int .i64 t176, .int .i64 t177, .int .i64 0]) ?_ 4 _ rfl; (with_reducible repeat (first | refine blk_drewN ?_ _ | refine blk_drew ?_ | refine blk_alloc ?_ _)); refine blk_put (cs := #[.int .i64 t174, .int .i64 t175, .int .i64 t176, .int .i64 0, .int .i64 0]) ?_ 3 _ rfl; (with_reducible repeat (first | refine blk_drewN ?_ _ | refine blk_drew ?_ | refine blk_alloc ?_ _)); refine blk_put (cs := #[.int .i64 t174, .int .i64 t175, .int .i64 0, .int .i64 0, .int .i64 0]) ?_ 2 _ rfl; (with_reducible repeat (first | refine blk_drewN ?_ _ | refine blk_drew ?_ | refine blk_alloc ?_ _)); refine blk_put (cs := #[.int .i64 t174, .int .i64 0, .int .i64 0, .int .i64 0, .int .i64 0]) ?_ 1 _ rfl; (with_reducible repeat (first | refine blk_drewN ?_ _ | refine blk_drew ?_ | refine blk_alloc ?_ _)); refine blk_put (cs := #[.int .i64 0, .int .i64 0, .int .i64 0, .int .i64 0, .int .i64 0]) ?_ 0 _ rfl; (with_reducible repeat (first | refine blk_drewN ?_ _ | refine blk_drew ?_ | refine blk_alloc ?_ _)); exact BK180.out) hb); have n1_ := Aside0.mk (below_step (by repeat (first | (with_reducible first | exact HB.out | apply below_alloc | apply pw_below_drewN | apply below_drew1 | refine below_set ?_ GE180.out) | exact HB.out)) hb); clear BK180; clear HB; have BK180 := n0_; have HB := n1_; clear n0_ n1_; (try clear hb); (try clear hb2); (try clear hk); (try clear hi); have hcz23_0 : w22.cell? ⟨gb180, 0, none⟩ = some (.int .i64 t174) := (blk_cell BK180.out 0).trans rfl; have hcz23_1 : w22.cell? ⟨gb180, 1, none⟩ = some (.int .i64 t175) := (blk_cell BK180.out 1).trans rfl; have hcz23_2 : w22.cell? ⟨gb180, 2, none⟩ = some (.int .i64 t176) := (blk_cell BK180.out 2).trans rfl; have hcz23_3 : w22.cell? ⟨gb180, 3, none⟩ = some (.int .i64 t177) := (blk_cell BK180.out 3).trans rfl; have hcz23_4 : w22.cell? ⟨gb180, 4, none⟩ = some (.int .i64 t178) := (blk_cell BK180.out 4).trans rfl; have hfz23_0 := blk_frozen BK180.out 0; have hfz23_1 := blk_frozen BK180.out 1; have hfz23_2 := blk_frozen BK180.out 2; have hfz23_3 := blk_frozen BK180.out 3; have hfz23_4 := blk_frozen BK180.out 4) | ((with_reducible refine gate_callee (f := 8) rfl ?_); refine goesL_ (some 39) rfl rfl Try.func8 (by kernel_rfl) rfl #[.int .u32 a0, .agg #[.int .i64 t174, .int .i64 t175, .int .i64 t176, .int .i64 t177, .int .i64 t178]] rfl (by (try simp only [List.map_toArray, List.map_cons, List.map_nil]); first | done | rfl | (simp only [List.length_drop, List.length_take]; rfl)) ?_; (with_reducible refine (listing_Target.calls a0 t174 t175 t176 t177 t178 t183 true _ A12.out).mono ?_); rintro e w24 ⟨rfl, hb⟩; refine ⟨_, rfl, ?_⟩; have n0_ := Aside0.mk (blk_below (g := gb180) (o := .cells #[.int .i64 t174, .int .i64 t175, .int .i64 t176, .int .i64 t177, .int .i64 t178] 24 (0, 0)) (by (with_reducible repeat (first | refine blk_drewN ?_ _ | refine blk_drew ?_ | refine blk_alloc ?_ _)); exact BK180.out) hb); have n1_ := Aside0.mk (below_step (by repeat (first | (with_reducible first | exact HB.out | apply below_alloc | apply pw_below_drewN | apply below_drew1 | refine below_set ?_ GE180.out) | exact HB.out)) hb); clear BK180; clear HB; have BK180 := n0_; have HB := n1_; clear n0_ n1_; (try clear hb); (try clear hb2); (try clear hk); (try clear hi)) | ((with_reducible refine gate_callee (f := 19) rfl ?_); refine goesL_ (some 45) rfl rfl Try.func19 (by kernel_rfl) rfl #[.int .u32 t183] rfl (by (try simp only [List.map_toArray, List.map_cons, List.map_nil]); first | done | rfl | (simp only [List.length_drop, List.length_take]; rfl)) ?_; (with_reducible refine (word_Hex.calls t183 t185 _ A14.out).mono ?_); rintro e w25 ⟨rfl, hb⟩; refine ⟨_, rfl, ?_⟩; have n0_ := Aside0.mk (blk_below (g := gb180) (o := .cells #[.int .i64 t174, .int .i64 t175, .int .i64 t176, .int .i64 t177, .int .i64 t178] 24 (0, 0)) (by (with_reducible repeat (first | refine blk_drewN ?_ _ | refine blk_drew ?_ | refine blk_alloc ?_ _)); exact BK180.out) hb); have n1_ := Aside0.mk (below_step (by repeat (first | (with_reducible first | exact HB.out | apply below_alloc | apply pw_below_drewN | apply below_drew1 | refine below_set ?_ GE180.out) | exact HB.out)) hb); clear BK180; clear HB; have BK180 := n0_; have HB := n1_; clear n0_ n1_; (try clear hb); (try clear hb2); (try clear hk); (try clear hi)))
         go_ret
         exact ⟨by first | rfl | (simp [errW_none, errW_some] <;> rfl) | (simp [*, errW_none, errW_some] <;> rfl), by repeat (first | (with_reducible first | exact HB.out | apply below_alloc | apply pw_below_drewN | apply below_drew1 | refine below_set ?_ GE180.out) | exact HB.out)⟩
        ·
         rw [if_neg c16] at H
         exact absurd H (by simp)
       ·
        rw [if_neg c15] at H
        exact absurd H (by simp)
      ·
       replace c13 := Bool.eq_false_iff.mpr c13
       subst c13
       have H1 : (some ((((t172 ++ (⟨#[32]⟩ : ByteArray)) ++ t173) ++ (⟨#[32]⟩ : ByteArray)) ++ t181)) = some r := by rw [if_neg (show ¬ (false = true) by decide)] at H; exact H
       clear H
       have H := H1
       clear H1
       obtain rfl := Option.some.inj H
       go_enter Try.func9, Try.ntmps9
       go_wp2_with (first | ((with_reducible refine gate_callee (f := 19) rfl ?_); refine goesL_ (some 13) rfl rfl Try.func19 (by kernel_rfl) rfl #[.int .u32 a0] rfl (by (try simp only [List.map_toArray, List.map_cons, List.map_nil]); first | done | rfl | (simp only [List.length_drop, List.length_take]; rfl)) ?_; (with_reducible refine (word_Hex.calls a0 t172 _ A3.out).mono ?_); rintro e w26 ⟨rfl, hb⟩; refine ⟨_, rfl, ?_⟩; have n0_ := Aside0.mk (below_step (by repeat (first | (with_reducible first | exact HB.out | apply below_alloc | apply pw_below_drewN | apply below_drew1) | exact HB.out)) hb); clear HB; have HB := n0_; clear n0_; (try clear hb); (try clear hb2); (try clear hk); (try clear hi)) | ((with_reducible refine gate_callee (f := 19) rfl ?_); refine goesL_ (some 16) rfl rfl Try.func19 (by kernel_rfl) rfl #[.int .u32 a1] rfl (by (try simp only [List.map_toArray, List.map_cons, List.map_nil]); first | done | rfl | (simp only [List.length_drop, List.length_take]; rfl)) ?_; (with_reducible refine (word_Hex.calls a1 t173 _ A5.out).mono ?_); rintro e w27 ⟨rfl, hb⟩; refine ⟨_, rfl, ?_⟩; have n0_ := Aside0.mk (below_step (by repeat (first | (with_reducible first | exact HB.out | apply below_alloc | apply pw_below_drewN | apply below_drew1) | exact HB.out)) hb); clear HB; have HB := n0_; clear n0_; (try clear hb); (try clear hb2); (try clear hk); (try clear hi)) | ((with_reducible refine gate_callee (f := 20) rfl ?_); refine goesL_ (some 21) rfl rfl Try.func20 (by kernel_rfl) rfl #[.int .u32 a1] rfl (by (try simp only [List.map_toArray, List.map_cons, List.map_nil]); first | done | rfl | (simp only [List.length_drop, List.length_take]; rfl)) ?_; (with_reducible refine (instr_Decode.calls k a1 t174 t175 t176 t177 t178 t179 _ A8.out).mono ?_); rintro e w28 ⟨rfl, hb⟩; refine ⟨_, rfl, ?_⟩; have n0_ := Aside0.mk (below_step (by repeat (first | (with_reducible first | exact HB.out | apply below_alloc | apply pw_below_drewN | apply below_drew1) | exact HB.out)) hb); clear HB; have HB := n0_; clear n0_; (try clear hb); (try clear hb2); (try clear hk); (try clear hi)) | ((with_reducible refine gate_dst (N := 6) rfl ?_); refine box_event ?hg (N := 6) ?hd (cs := #[.int .i64 0, .int .i64 0, .int .i64 0, .int .i64 0, .int .i64 0]) (t := 24) ?hr ?_; (case hd => rfl); (case hg => rfl); (case hr => first | (go_simp; done) | (go_simp; rfl)); intro gb180 hg w29 hbox hb; have n0_ := Aside0.mk (below_step (by repeat (first | (with_reducible first | exact HB.out | apply below_alloc | apply pw_below_drewN | apply below_drew1) | exact HB.out)) hb); have n1_ := Aside0.mk (hbox); have n2_ := Aside0.mk ((by rw [hg]; exact (below_size (by repeat (first | (with_reducible first | exact HB.out | apply below_alloc | apply pw_below_drewN | apply below_drew1) | exact HB.out))) : w.heap.size ≤ gb180)); have n3_ := Aside0.mk ((by rw [hg]; exact (below_size (by repeat (first | (with_reducible first | exact HB.out | apply below_alloc | apply pw_below_drewN | apply below_drew1) | exact HB.out))) : w.heap.size ≤ gb180)); clear HB; have HB := n0_; have BK180 := n1_; have GW180 := n2_; have GE180 := n3_; clear n0_ n1_ n2_ n3_; clear hb hbox hg; have hcz30_0 : w29.cell? ⟨gb180, 0, none⟩ = some (.int .i64 0) := (blk_cell BK180.out 0).trans rfl; have hcz30_1 : w29.cell? ⟨gb180, 1, none⟩ = some (.int .i64 0) := (blk_cell BK180.out 1).trans rfl; have hcz30_2 : w29.cell? ⟨gb180, 2, none⟩ = some (.int .i64 0) := (blk_cell BK180.out 2).trans rfl; have hcz30_3 : w29.cell? ⟨gb180, 3, none⟩ = some (.int .i64 0) := (blk_cell BK180.out 3).trans rfl; have hcz30_4 : w29.cell? ⟨gb180, 4, none⟩ = some (.int .i64 0) := (blk_cell BK180.out 4).trans rfl; have hfz30_0 := blk_frozen BK180.out 0; have hfz30_1 := blk_frozen BK180.out 1; have hfz30_2 := blk_frozen BK180.out 2; have hfz30_3 := blk_frozen BK180.out 3; have hfz30_4 := blk_frozen BK180.out 4) | ((with_reducible refine gate_callee (f := 21) rfl ?_); refine goesL_ (some 30) rfl rfl Try.func21 (by kernel_rfl) rfl #[.agg #[.int .i64 t174, .int .i64 t175, .int .i64 t176, .int .i64 t177, .int .i64 t178]] rfl (by (try simp only [List.map_toArray, List.map_cons, List.map_nil]); first | done | rfl | (simp only [List.length_drop, List.length_take]; rfl)) ?_; (with_reducible refine (instr_Text.calls k t174 t175 t176 t177 t178 t181 t182 _ A10.out).mono ?_); rintro e w31 ⟨rfl, hb⟩; refine ⟨_, rfl, ?_⟩; have n0_ := Aside0.mk (blk_below (g := gb180) (o := .cells #[.int .i64 t174, .int .i64 t175, .int .i64 t176, .int .i64 t177, .int .i64 t178] 24 (0, 0)) (by (with_reducible repeat (first | refine blk_drewN ?_ _ | refine blk_drew ?_ | refine blk_alloc ?_ _)); refine blk_put (cs := #[.int .i64 t174, .int .i64 t175, .int .i64 t176, .int .i64 t177, .int .i64 0]) ?_ 4 _ rfl; (with_reducible repeat (first | refine blk_drewN ?_ _ | refine blk_drew ?_ | refine blk_alloc ?_ _)); refine blk_put (cs := #[.int .i64 t174, .int .i64 t175, .int .i64 t176, .int .i64 0, .int .i64 0]) ?_ 3 _ rfl; (with_reducible repeat (first | refine blk_drewN ?_ _ | refine blk_drew ?_ | refine blk_alloc ?_ _)); refine blk_put (cs := #[.int .i64 t174, .int .i64 t175, .int .i64 0, .int .i64 0, .int .i64 0]) ?_ 2 _ rfl; (with_reducible repeat (first | refine blk_drewN ?_ _ | refine blk_drew ?_ | refine blk_alloc ?_ _)); refine blk_put (cs := #[.int .i64 t174, .int .i64 0, .int .i64 0, .int .i64 0, .int .i64 0]) ?_ 1 _ rfl; (with_reducible repeat (first | refine blk_drewN ?_ _ | refine blk_drew ?_ | refine blk_alloc ?_ _)); refine blk_put (cs := #[.int .i64 0, .int .i64 0, .int .i64 0, .int .i64 0, .int .i64 0]) ?_ 0 _ rfl; (with_reducible repeat (first | refine blk_drewN ?_ _ | refine blk_drew ?_ | refine blk_alloc ?_ _)); exact BK180.out) hb); have n1_ := Aside0.mk (below_step (by repeat (first | (with_reducible first | exact HB.out | apply below_alloc | apply pw_below_drewN | apply below_drew1 | refine below_set ?_ GE180.out) | exact HB.out)) hb); clear BK180; clear HB; have BK180 := n0_; have HB := n1_; clear n0_ n1_; (try clear hb); (try clear hb2); (try clear hk); (try clear hi); have hcz32_0 : w31.cell? ⟨gb180, 0, none⟩ = some (.int .i64 t174) := (blk_cell BK180.out 0).trans rfl; have hcz32_1 : w31.cell? ⟨gb180, 1, none⟩ = some (.int .i64 t175) := (blk_cell BK180.out 1).trans rfl; have hcz32_2 : w31.cell? ⟨gb180, 2, none⟩ = some (.int .i64 t176) := (blk_cell BK180.out 2).trans rfl; have hcz32_3 : w31.cell? ⟨gb180, 3, none⟩ = some (.int .i64 t177) := (blk_cell BK180.out 3).trans rfl; have hcz32_4 : w31.cell? ⟨gb180, 4, none⟩ = some (.int .i64 t178) := (blk_cell BK180.out 4).trans rfl; have hfz32_0 := blk_frozen BK180.out 0; have hfz32_1 := blk_frozen BK180.out 1; have hfz32_2 := blk_frozen BK180.out 2; have hfz32_3 := blk_frozen BK180.out 3; have hfz32_4 := blk_frozen BK180.out 4) | ((with_reducible refine gate_callee (f := 8) rfl ?_); refine goesL_ (some 39) rfl rfl Try.func8 (by kernel_rfl) rfl #[.int .u32 a0, .agg #[.int .i64 t174, .int .i64 t175, .int .i64 t176, .int .i64 t177, .int .i64 t178]] rfl (by (try simp only [List.map_toArray, List.map_cons, List.map_nil]); first | done | rfl | (simp only [List.length_drop, List.length_take]; rfl)) ?_; (with_reducible refine (listing_Target.calls a0 t174 t175 t176 t177 t178 t183 false _ A12.out).mono ?_); rintro e w33 ⟨rfl, hb⟩; refine ⟨_, rfl, ?_⟩; have n0_ := Aside0.mk (blk_below (g := gb180) (o := .cells #[.int .i64 t174, .int .i64 t175, .int .i64 t176, .int .i64 t177, .int .i64 t178] 24 (0, 0)) (by (with_reducible repeat (first | refine blk_drewN ?_ _ | refine blk_drew ?_ | refine blk_alloc ?_ _)); exact BK180.out) hb); have n1_ := Aside0.mk (below_step (by repeat (first | (with_reducible first | exact HB.out | apply below_alloc | apply pw_below_drewN | apply below_drew1 | refine below_set ?_ GE180.out) | exact HB.out)) hb); clear BK180; clear HB; have BK180 := n0_; have HB := n1_; clear n0_ n1_; (try clear hb); (try clear hb2); (try clear hk); (try clear hi)))
       go_ret
       exact ⟨by first | rfl | (simp [errW_none, errW_some] <;> rfl) | (simp [*, errW_none, errW_some] <;> rfl), by repeat (first | (with_reducible first | exact HB.out | apply below_alloc | apply pw_below_drewN | apply below_drew1 | refine below_set ?_ GE180.out) | exact HB.out)⟩
     ·
      rw [if_neg c11] at H
      exact absurd H (by simp)
    ·
     rw [if_neg c9] at H
     have c9b0 : (t179 == 0) = false := beq_eq_false_iff_ne.mpr c9
     have c9b1 : (t179 != 0) = true := bne_iff_ne.mpr c9
     by_cases c34 : (((t172 ++ (⟨#[32]⟩ : ByteArray)) ++ t173) ++ (⟨#[32]⟩ : ByteArray)).size + 1 ≤ 9223372036854775807
     ·
      rw [if_pos c34] at H
      have c34b0 := eq_true c34
      have c34b1 : decide ((((t172 ++ (⟨#[32]⟩ : ByteArray)) ++ t173) ++ (⟨#[32]⟩ : ByteArray)).size + 1 ≤ 9223372036854775807) = true := decide_eq_true c34
      try have c34b2 : (9223372036854775807 < (((t172 ++ (⟨#[32]⟩ : ByteArray)) ++ t173) ++ (⟨#[32]⟩ : ByteArray)).size + 1) = False := eq_false (Nat.not_lt.2 c34)
      try (have c34s2 := c34b2; simp only [ByteArray.size_append, Go.Proofs.Ytfagpgpeiomnpaa.C.ba_lit, List.size_toArray, List.length_cons, List.length_nil, Nat.zero_add, Nat.reduceAdd] at c34s2)
      obtain rfl := Option.some.inj H
      go_enter Try.func9, Try.ntmps9
      go_wp2_with (first | ((with_reducible refine gate_callee (f := 19) rfl ?_); refine goesL_ (some 13) rfl rfl Try.func19 (by kernel_rfl) rfl #[.int .u32 a0] rfl (by (try simp only [List.map_toArray, List.map_cons, List.map_nil]); first | done | rfl | (simp only [List.length_drop, List.length_take]; rfl)) ?_; (with_reducible refine (word_Hex.calls a0 t172 _ A3.out).mono ?_); rintro e w35 ⟨rfl, hb⟩; refine ⟨_, rfl, ?_⟩; have n0_ := Aside0.mk (below_step (by repeat (first | (with_reducible first | exact HB.out | apply below_alloc | apply pw_below_drewN | apply below_drew1) | exact HB.out)) hb); clear HB; have HB := n0_; clear n0_; (try clear hb); (try clear hb2); (try clear hk); (try clear hi)) | ((with_reducible refine gate_callee (f := 19) rfl ?_); refine goesL_ (some 16) rfl rfl Try.func19 (by kernel_rfl) rfl #[.int .u32 a1] rfl (by (try simp only [List.map_toArray, List.map_cons, List.map_nil]); first | done | rfl | (simp only [List.length_drop, List.length_take]; rfl)) ?_; (with_reducible refine (word_Hex.calls a1 t173 _ A5.out).mono ?_); rintro e w36 ⟨rfl, hb⟩; refine ⟨_, rfl, ?_⟩; have n0_ := Aside0.mk (below_step (by repeat (first | (with_reducible first | exact HB.out | apply below_alloc | apply pw_below_drewN | apply below_drew1) | exact HB.out)) hb); clear HB; have HB := n0_; clear n0_; (try clear hb); (try clear hb2); (try clear hk); (try clear hi)) | ((with_reducible refine gate_callee (f := 20) rfl ?_); refine goesL_ (some 21) rfl rfl Try.func20 (by kernel_rfl) rfl #[.int .u32 a1] rfl (by (try simp only [List.map_toArray, List.map_cons, List.map_nil]); first | done | rfl | (simp only [List.length_drop, List.length_take]; rfl)) ?_; (with_reducible refine (instr_Decode.calls k a1 t174 t175 t176 t177 t178 t179 _ A8.out).mono ?_); rintro e w37 ⟨rfl, hb⟩; refine ⟨_, rfl, ?_⟩; have n0_ := Aside0.mk (below_step (by repeat (first | (with_reducible first | exact HB.out | apply below_alloc | apply pw_below_drewN | apply below_drew1) | exact HB.out)) hb); clear HB; have HB := n0_; clear n0_; (try clear hb); (try clear hb2); (try clear hk); (try clear hi)) | ((with_reducible refine gate_dst (N := 6) rfl ?_); refine box_event ?hg (N := 6) ?hd (cs := #[.int .i64 0, .int .i64 0, .int .i64 0, .int .i64 0, .int .i64 0]) (t := 24) ?hr ?_; (case hd => rfl); (case hg => rfl); (case hr => first | (go_simp; done) | (go_simp; rfl)); intro gb180 hg w38 hbox hb; have n0_ := Aside0.mk (below_step (by repeat (first | (with_reducible first | exact HB.out | apply below_alloc | apply pw_below_drewN | apply below_drew1) | exact HB.out)) hb); have n1_ := Aside0.mk (hbox); have n2_ := Aside0.mk ((by rw [hg]; exact (below_size (by repeat (first | (with_reducible first | exact HB.out | apply below_alloc | apply pw_below_drewN | apply below_drew1) | exact HB.out))) : w.heap.size ≤ gb180)); have n3_ := Aside0.mk ((by rw [hg]; exact (below_size (by repeat (first | (with_reducible first | exact HB.out | apply below_alloc | apply pw_below_drewN | apply below_drew1) | exact HB.out))) : w.heap.size ≤ gb180)); clear HB; have HB := n0_; have BK180 := n1_; have GW180 := n2_; have GE180 := n3_; clear n0_ n1_ n2_ n3_; clear hb hbox hg; have hcz39_0 : w38.cell? ⟨gb180, 0, none⟩ = some (.int .i64 0) := (blk_cell BK180.out 0).trans rfl; have hcz39_1 : w38.cell? ⟨gb180, 1, none⟩ = some (.int .i64 0) := (blk_cell BK180.out 1).trans rfl; have hcz39_2 : w38.cell? ⟨gb180, 2, none⟩ = some (.int .i64 0) := (blk_cell BK180.out 2).trans rfl; have hcz39_3 : w38.cell? ⟨gb180, 3, none⟩ = some (.int .i64 0) := (blk_cell BK180.out 3).trans rfl; have hcz39_4 : w38.cell? ⟨gb180, 4, none⟩ = some (.int .i64 0) := (blk_cell BK180.out 4).trans rfl; have hfz39_0 := blk_frozen BK180.out 0; have hfz39_1 := blk_frozen BK180.out 1; have hfz39_2 := blk_frozen BK180.out 2; have hfz39_3 := blk_frozen BK180.out 3; have hfz39_4 := blk_frozen BK180.out 4))
      go_ret
      exact ⟨by first | rfl | (simp [errW_none, errW_some] <;> rfl) | (simp [*, errW_none, errW_some] <;> rfl), by repeat (first | (with_reducible first | exact HB.out | apply below_alloc | apply pw_below_drewN | apply below_drew1 | refine below_set ?_ GE180.out) | exact HB.out)⟩
     ·
      rw [if_neg c34] at H
      exact absurd H (by simp)
   ·
    rw [if_neg c7] at H
    exact absurd H (by simp)
  ·
   rw [if_neg c6] at H
   exact absurd H (by simp)
 ·
  rw [if_neg c4] at H
  exact absurd H (by simp)

end Go.Proofs.Ytfagpgpeiomnpaa.P

-- Written by a program of this session (wip/tools/hp.py) out of the translation.
namespace Go.Proofs.Ytfagpgpeiomnpaa.P
open Go.RowKit Go.Proofs.YtfagpgpeiomnpaaW.PrintWords Go.Proofs.YtfagpgpeiomnpaaW.PrintLast Go.Proofs.YtfagpgpeiomnpaaW.PrintMore
attribute [local go_sem] max2_int min2_int max_two min_two max_three min_three max_four min_four   -- for this text's walks alone
set_option linter.unusedVariables false
set_option linter.unusedSimpArgs false

/-! ### pascalinelaw06_awake: function 7 -/
def pascalinelaw06_awake.f (k : Nat)  : Option (Bool) := (listing_Line.f k 4 385875967).bind fun t186 => (some (t186.toList == ([48, 48, 48, 48, 48, 48, 48, 52, 32, 49, 54, 102, 102, 102, 102, 102, 102, 32, 66, 82, 32, 45, 49, 32, 45, 62, 32, 48, 48, 48, 48, 48, 48, 48, 52] : List UInt8)))
theorem pascalinelaw06_awake.mono : ∀ k, LeO (pascalinelaw06_awake.f k ) (pascalinelaw06_awake.f (k + 1) ) := by
 intro  k
 unfold pascalinelaw06_awake.f
 repeat' first
   | (with_reducible exact listing_Line.mono _ _ _)
   | (with_reducible exact LeO.refl _)
   | (with_reducible exact LeO.none _)
   | (with_reducible refine LeO.ite ?_ ?_)
   | (with_reducible refine LeO.bind ?_ (fun _ => ?_))
   | exact listing_Line.mono _ _ _
   | exact LeO.none _
   | refine LeO.ite ?_ ?_
   | refine LeO.bind ?_ (fun _ => ?_)
set_option maxHeartbeats 8000000 in
set_option maxRecDepth 100000 in
theorem pascalinelaw06_awake.calls (k : Nat)  (r : Bool) (w : World) (h : pascalinelaw06_awake.f k  = some r) :
  Calls Try.prog 7 #[] w fun e w' => e = .returned (.bool r) ∧ Below w.heap.size w w' := by
 have HB := Aside0.mk (Below.refl w.heap.size w)
 have H : ((listing_Line.f k 4 385875967).bind fun t186 => (some (t186.toList == ([48, 48, 48, 48, 48, 48, 48, 52, 32, 49, 54, 102, 102, 102, 102, 102, 102, 32, 66, 82, 32, 45, 49, 32, 45, 62, 32, 48, 48, 48, 48, 48, 48, 48, 52] : List UInt8)))) = some r := h
 clear h
 replace H := Option.bind_eq_some_iff.mp H
 obtain ⟨t186, A10, H⟩ := H
 replace H : (some (t186.toList == ([48, 48, 48, 48, 48, 48, 48, 52, 32, 49, 54, 102, 102, 102, 102, 102, 102, 32, 66, 82, 32, 45, 49, 32, 45, 62, 32, 48, 48, 48, 48, 48, 48, 48, 52] : List UInt8))) = some r := H
 have A1 := Aside0.mk A10
 clear A10
 obtain rfl := Option.some.inj H
 go_enter Try.func7, Try.ntmps7
 go_wp2_with (first | ((with_reducible refine gate_callee (f := 9) rfl ?_); refine goesL_ (some 1) rfl rfl Try.func9 (by kernel_rfl) rfl #[.int .u32 4, .int .u32 385875967] rfl (by (try simp only [List.map_toArray, List.map_cons, List.map_nil]); first | done | rfl | (simp only [List.length_drop, List.length_take]; rfl)) ?_; (with_reducible refine (listing_Line.calls k 4 385875967 t186 _ A1.out).mono ?_); rintro e w2 ⟨rfl, hb⟩; refine ⟨_, rfl, ?_⟩; have n0_ := Aside0.mk (below_step (by repeat (first | (with_reducible first | exact HB.out | apply below_alloc | apply pw_below_drewN | apply below_drew1) | exact HB.out)) hb); clear HB; have HB := n0_; clear n0_; (try clear hb); (try clear hb2); (try clear hk); (try clear hi)))
 go_ret
 exact ⟨by first | rfl | (simp [errW_none, errW_some] <;> rfl) | (simp [*, errW_none, errW_some] <;> rfl), by repeat (first | (with_reducible first | exact HB.out | apply below_alloc | apply pw_below_drewN | apply below_drew1) | exact HB.out)⟩

end Go.Proofs.Ytfagpgpeiomnpaa.P

-- Written by a program of this session (wip/tools/hp.py) out of the translation.
namespace Go.Proofs.Ytfagpgpeiomnpaa.P
open Go.RowKit Go.Proofs.YtfagpgpeiomnpaaW.PrintWords Go.Proofs.YtfagpgpeiomnpaaW.PrintLast Go.Proofs.YtfagpgpeiomnpaaW.PrintMore
attribute [local go_sem] max2_int min2_int max_two min_two max_three min_three max_four min_four   -- for this text's walks alone
set_option linter.unusedVariables false
set_option linter.unusedSimpArgs false

/-! ### pascalineref01_Hex: function 22 -/
def pascalineref01_Hex.l0 : Nat → Int → ByteArray → Int → Option (ByteArray)
 | 0, _, _, _ => none
 | k + 1, x0, x3, x4 => if x4 < 8 then (if 0 ≤ (Int.tmod x0 16) then (if (Int.tmod x0 16) ≤ (((Int.tmod x0 16) + 1) % 4294967296) then (if (((Int.tmod x0 16) + 1) % 4294967296) ≤ 16 then (if ((⟨#[48, 49, 50, 51, 52, 53, 54, 55, 56, 57, 97, 98, 99, 100, 101, 102]⟩ : ByteArray).extract ((Int.tmod x0 16) : Int).toNat ((((Int.tmod x0 16) + 1) % 4294967296) : Int).toNat).size + x3.size ≤ 9223372036854775807 then (pascalineref01_Hex.l0 k ((Int.tdiv x0 16) % 4294967296) (((⟨#[48, 49, 50, 51, 52, 53, 54, 55, 56, 57, 97, 98, 99, 100, 101, 102]⟩ : ByteArray).extract ((Int.tmod x0 16) : Int).toNat ((((Int.tmod x0 16) + 1) % 4294967296) : Int).toNat) ++ x3) (wrap64 (x4 + 1))) else (none)) else (none)) else (none)) else (none)) else (some x3)
def pascalineref01_Hex.f (k : Nat) (a0 : Int) : Option (ByteArray) := pascalineref01_Hex.l0 k a0 (⟨#[]⟩ : ByteArray) 0
theorem pascalineref01_Hex.mono_l : ∀ k, (∀ y0 y1 y2, LeO (pascalineref01_Hex.l0 k y0 y1 y2) (pascalineref01_Hex.l0 (k + 1) y0 y1 y2))
 | 0 => fun _ _ _ r h => by simp [pascalineref01_Hex.l0] at h
 | k + 1 => by
  have ih0 := pascalineref01_Hex.mono_l k
  ·
   intro y0 y1 y2
   unfold pascalineref01_Hex.l0
   repeat' first
   | (with_reducible exact ih0 _ _ _)
   | (with_reducible exact LeO.refl _)
   | (with_reducible exact LeO.none _)
   | (with_reducible refine LeO.ite ?_ ?_)
   | (with_reducible refine LeO.bind ?_ (fun _ => ?_))
   | exact ih0 _ _ _
   | exact LeO.none _
   | refine LeO.ite ?_ ?_
   | refine LeO.bind ?_ (fun _ => ?_)
theorem pascalineref01_Hex.mono : ∀ a0 k, LeO (pascalineref01_Hex.f k a0) (pascalineref01_Hex.f (k + 1) a0) := by
 intro a0 k
 have ih0 := pascalineref01_Hex.mono_l k
 unfold pascalineref01_Hex.f
 repeat' first
   | (with_reducible exact ih0 _ _ _)
   | (with_reducible exact LeO.refl _)
   | (with_reducible exact LeO.none _)
   | (with_reducible refine LeO.ite ?_ ?_)
   | (with_reducible refine LeO.bind ?_ (fun _ => ?_))
   | exact ih0 _ _ _
   | exact LeO.none _
   | refine LeO.ite ?_ ?_
   | refine LeO.bind ?_ (fun _ => ?_)
set_option maxHeartbeats 8000000 in
set_option maxRecDepth 100000 in
theorem pascalineref01_Hex.calls (k : Nat) (a0 : Int) (r : ByteArray) (w : World) (h : pascalineref01_Hex.f k a0 = some r) :
  Calls Try.prog 22 #[.int .u32 a0] w fun e w' => e = .returned (.string r) ∧ Drawn0 w w' := by
 have H : (pascalineref01_Hex.l0 k a0 (⟨#[]⟩ : ByteArray) 0) = some r := h
 clear h
 have H' := Aside0.mk H
 clear H
 go_enter Try.func22, Try.ntmps22
 go_wp2
 go_loopg [0, 3, 4] k (fun kq v0 v3 v4 w' => ∃ (x0_1 : Int) (x3_1 : ByteArray) (x4_1 : Int), v0 = .int .u32 x0_1 ∧ v3 = .string x3_1 ∧ v4 = .int .i64 x4_1 ∧ Aside0 (pascalineref01_Hex.l0 kq x0_1 x3_1 x4_1 = some r) ∧ Aside0 (kq ≤ k) ∧ Drawn0 w w')
 case atStart => exact ⟨(a0), ((⟨#[]⟩ : ByteArray)), (0), (by first | rfl | (simp; done) | (simp [*]; done)), (by first | rfl | (simp; done) | (simp [*]; done)), (by first | rfl | (simp; done) | (simp [*]; done)), H', ⟨Nat.le_refl _⟩, by repeat (first | exact Drawn0.refl _ | apply Drawn0.step)⟩
 case round =>
  clear H'
  obtain ⟨x0_1, x3_1, x4_1, rfl, rfl, rfl, HA, HK1, ⟨m1, rfl⟩⟩ := hrel
  cases gk with
  | zero => exact absurd HA.out (by simp [pascalineref01_Hex.l0])
  | succ k1 =>
   have H := HA.out
   clear HA
   simp only [pascalineref01_Hex.l0] at H
   by_cases c2 : x4_1 < 8
   ·
    rw [if_pos c2] at H
    have c2b0 : decide (x4_1 < 8) = true := decide_eq_true c2
    clear c2
    obtain ⟨ji3, hji3⟩ : ∃ j_ : Int, (Int.tmod x0_1 16) = j_ := ⟨_, rfl⟩
    replace H : (if 0 ≤ (ji3) then (if (ji3) ≤ (((ji3) + 1) % 4294967296) then (if (((ji3) + 1) % 4294967296) ≤ 16 then (if ((⟨#[48, 49, 50, 51, 52, 53, 54, 55, 56, 57, 97, 98, 99, 100, 101, 102]⟩ : ByteArray).extract ((ji3) : Int).toNat ((((ji3) + 1) % 4294967296) : Int).toNat).size + x3_1.size ≤ 9223372036854775807 then (pascalineref01_Hex.l0 k1 ((Int.tdiv x0_1 16) % 4294967296) (((⟨#[48, 49, 50, 51, 52, 53, 54, 55, 56, 57, 97, 98, 99, 100, 101, 102]⟩ : ByteArray).extract ((ji3) : Int).toNat ((((ji3) + 1) % 4294967296) : Int).toNat) ++ x3_1) (wrap64 (x4_1 + 1))) else (none)) else (none)) else (none)) else (none)) = some r := by first | (rw [hji3] at H; exact H) | (simp only [hji3] at H ⊢; exact H)
    by_cases c4 : 0 ≤ (ji3)
    ·
     rw [if_pos c4] at H
     have c4b0 := eq_true c4
     have c4b1 : decide (0 ≤ (ji3)) = true := decide_eq_true c4
     clear c4
     by_cases c5 : (ji3) ≤ (((ji3) + 1) % 4294967296)
     ·
      rw [if_pos c5] at H
      have c5b0 := eq_true c5
      have c5b1 : decide ((ji3) ≤ (((ji3) + 1) % 4294967296)) = true := decide_eq_true c5
      by_cases c6 : (((ji3) + 1) % 4294967296) ≤ 16
      ·
       rw [if_pos c6] at H
       have c6b0 := eq_true c6
       have c6b1 : decide ((((ji3) + 1) % 4294967296) ≤ 16) = true := decide_eq_true c6
       by_cases c7 : ((⟨#[48, 49, 50, 51, 52, 53, 54, 55, 56, 57, 97, 98, 99, 100, 101, 102]⟩ : ByteArray).extract ((ji3) : Int).toNat ((((ji3) + 1) % 4294967296) : Int).toNat).size + x3_1.size ≤ 9223372036854775807
       ·
        rw [if_pos c7] at H
        have c7b0 := eq_true c7
        have c7b1 : decide (((⟨#[48, 49, 50, 51, 52, 53, 54, 55, 56, 57, 97, 98, 99, 100, 101, 102]⟩ : ByteArray).extract ((ji3) : Int).toNat ((((ji3) + 1) % 4294967296) : Int).toNat).size + x3_1.size ≤ 9223372036854775807) = true := decide_eq_true c7
        try have c7b2 : (9223372036854775807 < ((⟨#[48, 49, 50, 51, 52, 53, 54, 55, 56, 57, 97, 98, 99, 100, 101, 102]⟩ : ByteArray).extract ((ji3) : Int).toNat ((((ji3) + 1) % 4294967296) : Int).toNat).size + x3_1.size) = False := eq_false (Nat.not_lt.2 c7)
        have H' := Aside0.mk H
        clear H
        go_wp2
        go_roundg k1
        case measure => have := HK1.out; omega
        case rel => exact ⟨((Int.tdiv x0_1 16) % 4294967296), (((⟨#[48, 49, 50, 51, 52, 53, 54, 55, 56, 57, 97, 98, 99, 100, 101, 102]⟩ : ByteArray).extract ((ji3) : Int).toNat ((((ji3) + 1) % 4294967296) : Int).toNat) ++ x3_1), (wrap64 (x4_1 + 1)), (by first | rfl | (simp; done) | (simp [*]; done)), (by first | rfl | (simp; done) | (simp only [← hji3] <;> (first | rfl | simp)) | (simp [*]; done)), (by first | rfl | (simp; done) | (simp [*]; done)), H', ⟨by have := HK1.out; omega⟩, by repeat (first | exact Drawn0.refl _ | apply Drawn0.step)⟩
       ·
        rw [if_neg c7] at H
        exact absurd H (by simp)
      ·
       rw [if_neg c6] at H
       exact absurd H (by simp)
     ·
      rw [if_neg c5] at H
      exact absurd H (by simp)
    ·
     rw [if_neg c4] at H
     exact absurd H (by simp)
   ·
    rw [if_neg c2] at H
    have c2b0 : decide (x4_1 < 8) = false := decide_eq_false c2
    clear c2
    obtain rfl := Option.some.inj H
    go_wp2
    go_ret
    exact ⟨by first | rfl | (simp; done) | (simp [*]; done), by repeat (first | exact Drawn0.refl _ | apply Drawn0.step)⟩

end Go.Proofs.Ytfagpgpeiomnpaa.P

/- What the printed functions of word and of its reference answer: powers of 2, and a word's lowest bits. -/
import Derived.Test.YtmebogkhdbbbbaaPx25
import Derived.Test.YtmebogkhdbbbbaaPx41
import Derived.Test.YtmebogkhdbbbbaaCDigs
import Derived.Test.YtmebogkhdbbbbaaCInstr
namespace Go.Proofs.Ytmebogkhdbbbbaa.Q
set_option linter.unusedVariables false
set_option linter.unusedSimpArgs false
open Go Go.RowKit Go.Proofs.Ytmebogkhdbbbbaa.P Go.Proofs.Ytmebogkhdbbbbaa.C Go.Proofs.YtmebogkhdbbbbaaW.PrintWords Go.Proofs.YtmebogkhdbbbbaaW.PrintLast Go.Proofs.YtmebogkhdbbbbaaW.PrintMore

theorem sround_eq (n : Int) (h : -9223372036854775808 ≤ n ∧ n ≤ 9223372036854775807) : pascalineref01_Round.f n = some (wrap32 n) := by
  unfold pascalineref01_Round.f
  by_cases h0 : 0 ≤ n
  · rw [tmod_pos _ _ h0]
    rw [if_neg (by omega)]
    split
    · rw [wrap64_in (by omega)]; unfold wrap32; congr 1; omega
    · unfold wrap32; congr 1; omega
  · rw [tmod_neg _ _ (by omega)]
    split
    · rw [wrap64_in (n := -(-n % 4294967296) + 4294967296) (by omega)]
      split
      · rw [wrap64_in (by omega)]; unfold wrap32; congr 1; omega
      · unfold wrap32; congr 1; omega
    · split
      · omega
      · unfold wrap32; congr 1; omega
theorem two_pow (k m : Nat) (h : k ≤ m) : 1 ≤ (2 : Int) ^ k ∧ (2 : Int) ^ k ≤ 2 ^ m := by
  have h1 : (2 : Nat) ^ k ≤ 2 ^ m := Nat.pow_le_pow_right (by omega) h
  have h2 : 1 ≤ (2 : Nat) ^ k := Nat.one_le_two_pow
  have h3 : ((2 : Nat) ^ k : Int) = (2 : Int) ^ k := by norm_cast
  have h4 : ((2 : Nat) ^ m : Int) = (2 : Int) ^ m := by norm_cast
  omega
theorem power_loop (n : Nat) (hn : n ≤ 40) (d : Nat) : ∀ (k j : Nat), n - j = d → j ≤ n → d < k → pascalineref01_Power.l0 k (n : Int) (2 ^ j) (j : Int) = some (2 ^ n) := by
  induction d with
  | zero =>
    intro k j hd hj hk
    obtain ⟨k, rfl⟩ : ∃ m, k = m + 1 := ⟨k - 1, by omega⟩
    simp only [pascalineref01_Power.l0]; rw [if_neg (by omega), show j = n by omega]
  | succ d ih =>
    intro k j hd hj hk
    obtain ⟨k, rfl⟩ : ∃ m, k = m + 1 := ⟨k - 1, by omega⟩
    have hp := two_pow j 40 (by omega)
    have h40 : (2 : Int) ^ 40 = 1099511627776 := by decide
    simp only [pascalineref01_Power.l0]
    rw [if_pos (by omega), wrap64_in (n := 2 ^ j * 2) (by omega), wrap64_in (n := (j : Int) + 1) (by omega), ← Int.pow_succ]
    exact ih k (j + 1) (by omega) (by omega) (by omega)
theorem power_f (n : Nat) (hn : n ≤ 40) (k : Nat) (hk : n < k) : pascalineref01_Power.f k (n : Int) = some (2 ^ n) := by
  have := power_loop n hn n k 0 (by omega) (by omega) hk
  exact this
/-- A word's lowest bits (so many of which a is the half), with a sign. -/
def sext (w half : Int) : Int := if w % (2 * half) ≥ half then w % (2 * half) - 2 * half else w % (2 * half)
theorem ref_sext16 (k : Nat) (w : Int) (hk : 50 < k) (hw : 0 ≤ w ∧ w ≤ 4294967295) : pascalineref01_Sext.f k w 16 = some (sext w 32768) := by
  have hp := power_f 16 (by omega) k (by omega)
  unfold pascalineref01_Sext.f sext
  rw [if_neg (by omega), show mn 16 32 = ((16 : Nat) : Int) from rfl, hp]
  simp only [Option.bind_some]
  rw [show (2 : Int) ^ 16 = 65536 by decide, if_neg (by omega), wrap64_in (n := w) (by omega), tmod_pos _ _ hw.1, show Int.tdiv 65536 2 = 32768 by decide, wrap64_in (n := 32768) (by omega), show (2 : Int) * 32768 = 65536 by decide]
  split
  · rw [wrap64_in (by omega), sround_eq _ (by omega), wrap32_in (by omega)]; rfl
  · rw [sround_eq _ (by omega), wrap32_in (by omega)]; rfl
theorem ref_sext24 (k : Nat) (w : Int) (hk : 50 < k) (hw : 0 ≤ w ∧ w ≤ 4294967295) : pascalineref01_Sext.f k w 24 = some (sext w 8388608) := by
  have hp := power_f 24 (by omega) k (by omega)
  unfold pascalineref01_Sext.f sext
  rw [if_neg (by omega), show mn 24 32 = ((24 : Nat) : Int) from rfl, hp]
  simp only [Option.bind_some]
  rw [show (2 : Int) ^ 24 = 16777216 by decide, if_neg (by omega), wrap64_in (n := w) (by omega), tmod_pos _ _ hw.1, show Int.tdiv 16777216 2 = 8388608 by decide, wrap64_in (n := 8388608) (by omega), show (2 : Int) * 8388608 = 16777216 by decide]
  split
  · rw [wrap64_in (by omega), sround_eq _ (by omega), wrap32_in (by omega)]; rfl
  · rw [sround_eq _ (by omega), wrap32_in (by omega)]; rfl
theorem swrap_u32 (x : Int) : IntKind.u32.wrap x = x % 4294967296 := by
  simp [IntKind.wrap, IntKind.signed, IntKind.bits]
theorem word_sext16 (w : Int) (hw : 0 ≤ w ∧ w ≤ 4294967295) : word_Sext.f w 16 = some (sext w 32768) := by
  unfold word_Sext.f sext shl shr
  rw [if_neg (by omega), show mn 16 32 = 16 from rfl, show wrap64 (32 - 16) = 16 by unfold wrap64; decide, if_pos (by omega), swrap_u32, show min (16 : Int).toNat IntKind.u32.bits = 16 by decide, show min (16 : Int).toNat IntKind.i32.bits = 16 by decide, show (2 : Int) ^ 16 = 65536 by decide]
  congr 1
  unfold wrap32
  split <;> omega
theorem word_sext24 (w : Int) (hw : 0 ≤ w ∧ w ≤ 4294967295) : word_Sext.f w 24 = some (sext w 8388608) := by
  unfold word_Sext.f sext shl shr
  rw [if_neg (by omega), show mn 24 32 = 24 from rfl, show wrap64 (32 - 24) = 8 by unfold wrap64; decide, if_pos (by omega), swrap_u32, show min (8 : Int).toNat IntKind.u32.bits = 8 by decide, show min (8 : Int).toNat IntKind.i32.bits = 8 by decide, show (2 : Int) ^ 8 = 256 by decide]
  congr 1
  unfold wrap32
  split <;> omega
theorem fits16 (n : Int) : word_Fits.f n 16 = some (decide (-32768 ≤ n) && decide (n < 32768)) := rfl
theorem fits24 (n : Int) : word_Fits.f n 24 = some (decide (-8388608 ≤ n) && decide (n < 8388608)) := rfl
theorem within16 (n : Int) : word_Within.f n 16 = some (decide (0 ≤ n) && decide (n < 65536)) := by
  unfold word_Within.f
  rw [if_pos (by omega), show mn 16 40 = 16 from rfl, show wrap64 (2 ^ (16 : Int).toNat) = 65536 by unfold wrap64; decide]
  by_cases h : n ≥ 0
  · rw [if_pos h, if_pos (by omega), decide_eq_true (show 0 ≤ n from h), Bool.true_and]
  · rw [if_neg h, decide_eq_false (show ¬ 0 ≤ n by omega), Bool.false_and]
end Go.Proofs.Ytmebogkhdbbbbaa.Q

/- What the printed functions of instr and of its reference answer: shapes, what may be, words. -/
namespace Go.Proofs.Ytmebogkhdbbbbaa.Q
set_option linter.unusedVariables false
set_option linter.unusedSimpArgs false
open Go Go.RowKit Go.Proofs.Ytmebogkhdbbbbaa.P Go.Proofs.Ytmebogkhdbbbbaa.C Go.Proofs.YtmebogkhdbbbbaaW.PrintWords Go.Proofs.YtmebogkhdbbbbaaW.PrintLast Go.Proofs.YtmebogkhdbbbbaaW.PrintMore

theorem op_cases (op : Int) (h : ¬ (1 ≤ op ∧ op ≤ 34)) : op ≠ 1 ∧ op ≠ 2 ∧ op ≠ 3 ∧ op ≠ 4 ∧ op ≠ 5 ∧ op ≠ 6 ∧ op ≠ 7 ∧ op ≠ 8 ∧ op ≠ 9 ∧ op ≠ 10 ∧ op ≠ 11 ∧ op ≠ 12 ∧ op ≠ 13 ∧ op ≠ 14 ∧ op ≠ 15 ∧ op ≠ 16 ∧ op ≠ 17 ∧ op ≠ 18 ∧ op ≠ 19 ∧ op ≠ 20 ∧ op ≠ 21 ∧ op ≠ 22 ∧ op ≠ 23 ∧ op ≠ 24 ∧ op ≠ 25 ∧ op ≠ 26 ∧ op ≠ 27 ∧ op ≠ 28 ∧ op ≠ 29 ∧ op ≠ 30 ∧ op ≠ 31 ∧ op ≠ 32 ∧ op ≠ 33 ∧ op ≠ 34 := by omega
theorem shape_eq (k : Nat) (op : Int) (hk : 10 ≤ k) : instr_Shape.f k op = some (shapeOf op) := by
  refine at_rounds (g := fun k => instr_Shape.f k op) (instr_Shape.mono op) hk ?_
  show instr_Shape.f 10 op = _
  by_cases h : 1 ≤ op ∧ op ≤ 34
  · have : ∀ j : Fin 35, 1 ≤ j.1 → instr_Shape.f 10 (j.1 : Int) = some (shapeOf (j.1 : Int)) := by decide +kernel
    have e := this ⟨op.toNat, by omega⟩ (by simp only; omega)
    simp only at e
    rw [Int.toNat_of_nonneg (by omega)] at e
    exact e
  · have hs : shapeOf op = -1 := by unfold shapeOf; rw [if_neg h]
    obtain ⟨h1, h2, h3, h4, h5, h6, h7, h8, h9, h10, h11, h12, h13, h14, h15, h16, h17, h18, h19, h20, h21, h22, h23, h24, h25, h26, h27, h28, h29, h30, h31, h32, h33, h34⟩ := op_cases op h
    simp [instr_Shape.f, instr_Shape.j0, instr_Shape.j1, instr_Shape.j2, instr_Shape.j3, instr_Shape.j4, instr_Shape.j5, instr_Shape.j6, *]
theorem rshape_eq (k : Nat) (op : Int) (hk : 10 ≤ k) : pascalineref02_Shape.f k op = some (shapeOf op) := by
  refine at_rounds (g := fun k => pascalineref02_Shape.f k op) (pascalineref02_Shape.mono op) hk ?_
  show pascalineref02_Shape.f 10 op = _
  by_cases h : 1 ≤ op ∧ op ≤ 34
  · have : ∀ j : Fin 35, 1 ≤ j.1 → pascalineref02_Shape.f 10 (j.1 : Int) = some (shapeOf (j.1 : Int)) := by decide +kernel
    have e := this ⟨op.toNat, by omega⟩ (by simp only; omega)
    simp only at e
    rw [Int.toNat_of_nonneg (by omega)] at e
    exact e
  · have hs : shapeOf op = -1 := by unfold shapeOf; rw [if_neg h]
    obtain ⟨h1, h2, h3, h4, h5, h6, h7, h8, h9, h10, h11, h12, h13, h14, h15, h16, h17, h18, h19, h20, h21, h22, h23, h24, h25, h26, h27, h28, h29, h30, h31, h32, h33, h34⟩ := op_cases op h
    have hd : ¬ (6 ≤ op ∧ op ≤ 17) := by omega
    by_cases h6' : 6 ≤ op
    · have : ¬ op ≤ 17 := by omega
      simp [pascalineref02_Shape.f, pascalineref02_Shape.j0, pascalineref02_Shape.j1, pascalineref02_Shape.j2, pascalineref02_Shape.j3, pascalineref02_Shape.j4, pascalineref02_Shape.j5, pascalineref02_Shape.j6, *]
    · simp [pascalineref02_Shape.f, pascalineref02_Shape.j0, pascalineref02_Shape.j1, pascalineref02_Shape.j2, pascalineref02_Shape.j3, pascalineref02_Shape.j4, pascalineref02_Shape.j5, pascalineref02_Shape.j6, *]
theorem reg_eq (a : Int) : instr_reg.f a = some (decide (0 ≤ a ∧ a ≤ 15)) := by
  unfold instr_reg.f
  by_cases h : a ≥ 0
  · rw [if_pos h]; congr 1; rw [decide_eq_decide]; omega
  · rw [if_neg h, decide_eq_false (by omega)]
theorem shape_split (s : Int) (h : -1 ≤ s ∧ s ≤ 8) : s = -1 ∨ s = 0 ∨ s = 1 ∨ s = 2 ∨ s = 3 ∨ s = 4 ∨ s = 5 ∨ s = 6 ∨ s = 7 ∨ s = 8 := by omega
theorem check_at (s k op a b c i : Int) (m : Nat) (hs : -1 ≤ s ∧ s ≤ 8) (h : instr_Shape.f (m + 10) op = some s) :
    instr_Check.f (m + 10) op a b c i = some (if s < 0 then 21 else if okAt s a b c i then 0 else 20) := by
  unfold instr_Check.f
  rw [h]
  simp only [Option.bind_some, reg_eq]
  rcases shape_split s hs with rfl | rfl | rfl | rfl | rfl | rfl | rfl | rfl | rfl | rfl
  all_goals
    simp [instr_imm.f, instr_imm.j0, instr_imm.j1, fits16, fits24, within16, instr_Check.j0, instr_Check.j1, instr_Check.j2, okAt, low, high]
  all_goals
    (repeat' split) <;> first | rfl | (exfalso; omega)
theorem check_eq (k : Nat) (hk : 10 ≤ k) (op a b c i : Int) : instr_Check.f k op a b c i = some (checkOf op a b c i) := by
  obtain ⟨m, rfl⟩ : ∃ m, k = m + 10 := ⟨k - 10, by omega⟩
  exact check_at (shapeOf op) 0 op a b c i m (shapeOf_range op) (shape_eq _ op (by omega))
theorem rj0_true (m : Nat) (s op a b c i : Int) : pascalineref02_Check.j0 (m + 1) s true op a b c i = some 20 := by
  rw [pascalineref02_Check.j0, if_pos rfl]
theorem rj0_false (m : Nat) (s op a b c i : Int) (hs : 0 ≤ s ∧ s ≤ 8) : pascalineref02_Check.j0 (m + 10) s false op a b c i = some (if low s ≤ i ∧ i ≤ high s then 0 else 20) := by
  rcases shape_split s (by omega) with rfl | rfl | rfl | rfl | rfl | rfl | rfl | rfl | rfl | rfl
  · omega
  all_goals
    simp [pascalineref02_Check.j0, pascalineref02_Check.j1, pascalineref02_Check.j2, low, high]
  all_goals
    (repeat' split) <;> first | rfl | (exfalso; omega)
theorem rcheck_at (s op a b c i : Int) (m : Nat) (hs : -1 ≤ s ∧ s ≤ 8) (h : pascalineref02_Shape.f (m + 10) op = some s) :
    pascalineref02_Check.f (m + 10) op a b c i = some (if s < 0 then 21 else if okAt s a b c i then 0 else 20) := by
  unfold pascalineref02_Check.f
  rw [h]
  simp only [Option.bind_some]
  by_cases h0 : s < 0
  · rw [if_pos h0, if_pos h0]
  · rw [if_neg h0, if_neg h0]
    by_cases hr : (0 ≤ a ∧ a ≤ 15) ∧ (0 ≤ b ∧ b ≤ 15) ∧ (0 ≤ c ∧ c ≤ 15)
    · have e : okAt s a b c i ↔ ((¬ (1 ≤ s ∧ s ≤ 6) → a = 0) ∧ (¬ (3 ≤ s ∧ s ≤ 5) → b = 0) ∧ (s ≠ 5 → c = 0)) ∧ (low s ≤ i ∧ i ≤ high s) := by
        unfold okAt; omega
      have h1 : ¬ a < 0 := by omega
      have h2 : ¬ a > 15 := by omega
      have h3 : ¬ b < 0 := by omega
      have h4 : ¬ b > 15 := by omega
      have h5 : ¬ c < 0 := by omega
      have h6 : ¬ c > 15 := by omega
      have hT := rj0_true (m + 9) s op a b c i
      have hF := rj0_false m s op a b c i (by omega)
      by_cases hi : low s ≤ i ∧ i ≤ high s
      · have hF' : ∀ a b c : Int, pascalineref02_Check.j0 (m + 10) s false op a b c i = some 0 := fun a b c => by rw [rj0_false m s op a b c i (by omega), if_pos hi]
        have hT' : ∀ a b c : Int, pascalineref02_Check.j0 (m + 10) s true op a b c i = some 20 := fun a b c => rj0_true (m + 9) s op a b c i
        have hb : ∀ x : Int, (x != 0) = !decide (x = 0) := fun x => by by_cases h : x = 0 <;> simp [h, bne]
        obtain ⟨hi1, hi2⟩ := hi
        obtain ⟨⟨r1, r2⟩, ⟨r3, r4⟩, r5, r6⟩ := hr
        clear hT hF e
        rcases shape_split s hs with rfl | rfl | rfl | rfl | rfl | rfl | rfl | rfl | rfl | rfl
        · omega
        all_goals
          by_cases g1 : a = 0 <;> by_cases g2 : b = 0 <;> by_cases g3 : c = 0 <;> simp [pascalineref02_has.f, h1, h2, h3, h4, h5, h6, hT', hF', hb, okAt, hi1, hi2, r1, r2, r3, r4, r5, r6, g1, g2, g3]
      · rw [if_neg hi] at hF
        have hn : ¬ okAt s a b c i := fun f => hi (e.1 f).2
        rw [if_neg hn]
        have hA : ∀ x : Bool, pascalineref02_Check.j0 (m + 10) s x op a b c i = some 20 := fun x => by cases x; exact hF; exact hT
        have hh : ∃ q, pascalineref02_has.f s = some q := by unfold pascalineref02_has.f; (repeat' split) <;> exact ⟨_, rfl⟩
        obtain ⟨q, hq⟩ := hh
        rw [hq]
        simp only [Option.bind_some, hA]
        simp [h1, h2, h3, h4, h5, h6]
    · have hn : ¬ okAt s a b c i := fun f => hr ⟨f.1, f.2.1, f.2.2.1⟩
      rw [if_neg hn]
      have hT := rj0_true (m + 9) s op a b c i
      have hh : ∃ q, pascalineref02_has.f s = some q := by unfold pascalineref02_has.f; (repeat' split) <;> exact ⟨_, rfl⟩
      obtain ⟨q, hq⟩ := hh
      rw [hq]
      simp only [Option.bind_some]
      by_cases h1 : a < 0
      · rw [if_pos h1]; exact hT
      · rw [if_neg h1]
        by_cases h2 : a > 15
        · rw [if_pos h2]; exact hT
        · rw [if_neg h2]
          by_cases h3 : b < 0
          · rw [if_pos h3]; exact hT
          · rw [if_neg h3]
            by_cases h4 : b > 15
            · rw [if_pos h4]; exact hT
            · rw [if_neg h4]
              by_cases h5 : c < 0
              · rw [if_pos h5]; exact hT
              · rw [if_neg h5, if_pos (by omega)]; exact hT
theorem rcheck_eq (k : Nat) (hk : 10 ≤ k) (op a b c i : Int) : pascalineref02_Check.f k op a b c i = some (checkOf op a b c i) := by
  obtain ⟨m, rfl⟩ : ∃ m, k = m + 10 := ⟨k - 10, by omega⟩
  exact rcheck_at (shapeOf op) op a b c i m (shapeOf_range op) (rshape_eq _ op (by omega))
theorem and_low (i : Nat) (hi : i ≤ 32) (m x : Int) (hm : m = 2 ^ i - 1) (h0 : 0 ≤ x) (h1 : x < 4294967296) : Go.bits .and .u32 x m = x % 2 ^ i := by
  rw [hm]; exact and_lo i hi x h0 h1
theorem and24 (x : Int) (h0 : 0 ≤ x) (h1 : x < 4294967296) : Go.bits .and .u32 x 16777215 = x % 16777216 := and_low 24 (by omega) _ x (by decide) h0 h1
theorem and16 (x : Int) (h0 : 0 ≤ x) (h1 : x < 4294967296) : Go.bits .and .u32 x 65535 = x % 65536 := and_low 16 (by omega) _ x (by decide) h0 h1
theorem and4 (x : Int) (h0 : 0 ≤ x) (h1 : x < 4294967296) : Go.bits .and .u32 x 15 = x % 16 := and_low 4 (by omega) _ x (by decide) h0 h1
theorem and4w (x : Int) (h : 0 ≤ x ∧ x < 4294967296) : wrap64 (Go.bits .and .u32 x 15) = x % 16 := by
  rw [and4 x h.1 h.2]; exact wrap64_in (by omega)
theorem and16w (x : Int) (h : 0 ≤ x ∧ x < 4294967296) : wrap64 (Go.bits .and .u32 x 65535) = x % 65536 := by
  rw [and16 x h.1 h.2]; exact wrap64_in (by omega)
theorem enc_eq (k : Nat) (hk : 10 ≤ k) (op a b c i : Int) : instr_Encode.f k op a b c i = some (encOf op a b c i) := by
  unfold instr_Encode.f encOf
  rw [check_eq k hk]
  simp only [Option.bind_some]
  by_cases h : checkOf op a b c i = 0
  · rw [if_pos h, if_pos h, shape_eq k op hk]
    simp only [Option.bind_some]
    obtain ⟨h1, h2, h3, h4, h5, h6, h7, h8, h9⟩ := (checkOf_ok op a b c i).1 h
    have ho := shapeOf_op op h1
    have hr : -8388608 ≤ i ∧ i ≤ 65535 ∨ -8388608 ≤ i ∧ i ≤ 8388607 := by
      unfold low at h8; unfold high at h9
      split at h8 <;> split at h9 <;> omega
    unfold wordOf
    by_cases h7' : shapeOf op = 7
    · rw [if_pos h7', if_pos h7', and24 _ (by omega) (by omega)]
      rw [or_hi 24 (op % 4294967296 * 16777216 % 4294967296) (i % 4294967296 % 16777216) (by omega) (by omega) (by omega) (by omega) (by omega) (by omega)]
      congr 2; omega
    · rw [if_neg h7', if_neg h7', and16 _ (by omega) (by omega)]
      have hc0 : i % 65536 = 0 ∨ c = 0 := by
        by_cases h5' : shapeOf op = 5
        · left
          unfold low at h8; unfold high at h9
          rw [h5'] at h8 h9
          simp at h8 h9
          omega
        · right; exact h7 h5'
      rw [or_hi 24 (op % 4294967296 * 16777216 % 4294967296) (a % 4294967296 * 1048576 % 4294967296) (by omega) (by omega) (by omega) (by omega) (by omega) (by omega)]
      rw [or_hi 20 (op % 4294967296 * 16777216 % 4294967296 + a % 4294967296 * 1048576 % 4294967296) (b % 4294967296 * 65536 % 4294967296) (by omega) (by omega) (by omega) (by omega) (by omega) (by omega)]
      rw [or_hi 16 (op % 4294967296 * 16777216 % 4294967296 + a % 4294967296 * 1048576 % 4294967296 + b % 4294967296 * 65536 % 4294967296) (i % 4294967296 % 65536) (by omega) (by omega) (by omega) (by omega) (by omega) (by omega)]
      rcases hc0 with hc0 | hc0
      · rw [or_hi 4 _ (c % 4294967296) (by omega) (by omega) (by omega) (by omega) (by omega) (by omega)]
        congr 2; omega
      · subst hc0
        have e : ∀ x : Int, 0 ≤ x → x < 4294967296 → Go.bits .or .u32 x (0 % 4294967296) = x := fun x h0 h1 => by
          rw [or_hi 0 x _ h0 (by omega) h1 (by omega) (by omega) (by omega)]; omega
        rw [e _ (by omega) (by omega)]
        congr 2; omega
  · rw [if_neg h, if_neg h]
theorem renc_eq (k : Nat) (hk : 10 ≤ k) (op a b c i : Int) : pascalineref02_Encode.f k op a b c i = some (encOf op a b c i) := by
  unfold pascalineref02_Encode.f encOf
  rw [rcheck_eq k hk]
  simp only [Option.bind_some]
  by_cases h : checkOf op a b c i = 0
  · rw [if_pos h, if_pos h, rshape_eq k op hk]
    simp only [Option.bind_some]
    obtain ⟨h1, h2, h3, h4, h5, h6, h7, h8, h9⟩ := (checkOf_ok op a b c i).1 h
    have ho := shapeOf_op op h1
    have hr : -8388608 ≤ i ∧ i ≤ 8388607 := by
      unfold low at h8; unfold high at h9
      split at h8 <;> split at h9 <;> omega
    unfold wordOf
    by_cases h7' : shapeOf op = 7
    · rw [if_pos h7', if_pos h7', wrap64_in (n := op * 16777216) (by omega), wrap64_in (n := i + 16777216) (by omega), tmod_pos _ _ (by omega), wrap64_in (by omega)]
      congr 2; omega
    · have hl : -65536 ≤ i := by
        unfold low at h8; rw [if_neg h7'] at h8
        split at h8 <;> omega
      rw [if_neg h7', if_neg h7', wrap64_in (n := op * 16777216) (by omega), wrap64_in (n := a * 1048576) (by omega), wrap64_in (n := b * 65536) (by omega), wrap64_in (n := i + 65536) (by omega), tmod_pos _ _ (by omega), wrap64_in (n := op * 16777216 + a * 1048576) (by omega), wrap64_in (n := op * 16777216 + a * 1048576 + b * 65536) (by omega), wrap64_in (n := op * 16777216 + a * 1048576 + b * 65536 + (i + 65536) % 65536) (by omega), wrap64_in (by omega)]
      congr 2; omega
  · rw [if_neg h, if_neg h]
end Go.Proofs.Ytmebogkhdbbbbaa.Q

/- Whole numbers as floats, more: signs, the greater and the less one, complex numbers, back to whole numbers. No program in sight. -/
import Derived.Test.YtbfepcajbbeheaaCFlt
namespace Go.Proofs.Ytbfepcajbbeheaa.C
open Go Ieee
set_option linter.unusedSimpArgs false
set_option linter.unusedVariables false

theorem fl_lit {x : Nat} {n : Int} (h : n.natAbs < 2 ^ 53) (e : floatOfInt .f64 n = x) : Fl x n := e ▸ fl_ofInt h
theorem fl_fmt {x y : Nat} {a b : Int} (hx : Fl x a) (hy : Fl y b) : FloatKind.f64.format.order x y = some (compare a b) := fl_order hx hy
section
variable {P : Program}
theorem fl_max {x y : Nat} {a b : Int} (hx : Fl x a) (hy : Fl y b) : ∃ r, (∀ (w : World), (Builtin.max2 (.float .f64 x) (.float .f64 y)).run P w = .ok (.float .f64 r) w) ∧ Fl r (max a b) := by
  have ho := fl_fmt hx hy
  rcases Int.lt_trichotomy a b with h | h | h
  · refine ⟨y, ?_, by rw [Int.max_eq_right (by omega)]; exact hy⟩
    intro w; simp [Builtin.max2, ho, Int.compare_eq_lt.mpr h]
  · subst h
    refine ⟨if (FloatKind.f64.decode x).neg then y else x, ?_, ?_⟩
    · intro w; simp [Builtin.max2, ho]
    · rw [Int.max_self]
      split
      · exact hy
      · exact hx
  · refine ⟨x, ?_, by rw [Int.max_eq_left (by omega)]; exact hx⟩
    intro w; simp [Builtin.max2, ho, Int.compare_eq_gt.mpr h]
theorem fl_min {x y : Nat} {a b : Int} (hx : Fl x a) (hy : Fl y b) : ∃ r, (∀ (w : World), (Builtin.min2 (.float .f64 x) (.float .f64 y)).run P w = .ok (.float .f64 r) w) ∧ Fl r (min a b) := by
  have ho := fl_fmt hx hy
  rcases Int.lt_trichotomy a b with h | h | h
  · refine ⟨x, ?_, by rw [Int.min_eq_left (by omega)]; exact hx⟩
    intro w; simp [Builtin.min2, ho, Int.compare_eq_lt.mpr h]
  · subst h
    refine ⟨if (FloatKind.f64.decode x).neg then x else y, ?_, ?_⟩
    · intro w; simp [Builtin.min2, ho]
    · rw [Int.min_self]
      split
      · exact hx
      · exact hy
  · refine ⟨y, ?_, by rw [Int.min_eq_right (by omega)]; exact hy⟩
    intro w; simp [Builtin.min2, ho, Int.compare_eq_gt.mpr h]
end
theorem fl_neg {x : Nat} {a : Int} (hx : Fl x a) : Fl (Op.negFloat .f64 x) (-a) := by
  have h := flIs_opposite hx
  have e : double.read (Op.negFloat .f64 x) = (double.read x).opposite ∨ True := .inr trivial
  unfold Fl
  have es : double.signWeight = 2 ^ 63 := rfl
  have e1 : Op.negFloat .f64 x = x ^^^ 2 ^ 63 := rfl
  have d1 : (x ^^^ 2 ^ 63) % 2 ^ 63 = x % 2 ^ 63 := by
    rw [Nat.xor_mod_two_pow] <;> simp
  have d2 : (x ^^^ 2 ^ 63) / 2 ^ 63 = (x / 2 ^ 63) ^^^ 1 := by
    rw [Nat.xor_div_two_pow] <;> simp
  have d3 : ((x / 2 ^ 63) ^^^ 1) % 2 = 1 - (x / 2 ^ 63) % 2 := by
    have := Nat.xor_mod_two_pow (a := x / 2 ^ 63) (b := 1) (n := 1)
    simp only [Nat.pow_one] at this
    rw [this]
    have h2 : (x / 2 ^ 63) % 2 = 0 ∨ (x / 2 ^ 63) % 2 = 1 := by omega
    rcases h2 with h2 | h2 <;> rw [h2] <;> rfl
  obtain ⟨s, m, i, hd, h1⟩ := hx
  rw [hd] at h
  suffices hr : double.read (Op.negFloat .f64 x) = .number (!s) m i by rw [hr]; exact h
  rw [e1]
  unfold Format.read at hd ⊢
  rw [es] at hd ⊢
  simp only [d1, d2, d3]
  have hs : ((1 - x / 2 ^ 63 % 2) == 1) = !((x / 2 ^ 63 % 2) == 1) := by
    have h2 : (x / 2 ^ 63) % 2 = 0 ∨ (x / 2 ^ 63) % 2 = 1 := by omega
    rcases h2 with h2 | h2 <;> rw [h2] <;> rfl
  rw [hs]
  simp only at hd
  by_cases c1 : x % 2 ^ 63 < double.binade
  · rw [if_pos c1] at hd ⊢
    injection hd with q1 q2 q3
    rw [q1, q2, q3]
  · rw [if_neg c1] at hd ⊢
    by_cases c2 : x % 2 ^ 63 < double.infRung
    · rw [if_pos c2] at hd ⊢
      injection hd with q1 q2 q3
      rw [q1, q2, q3]
    · rw [if_neg c2] at hd
      split at hd <;> cases hd
theorem fl_toInt {x : Nat} {a : Int} (hx : Fl x a) (h : -9223372036854775808 ≤ a ∧ a ≤ 9223372036854775807) : floatToIntVal .f64 x .i64 = some a := by
  obtain ⟨s, m, i, hd, h1⟩ := hx
  have hN : ∀ k : Nat, 0 ≤ i + k → m * 2 ^ (i + k).toNat = a.natAbs * 2 ^ k := by
    intro k hk
    have h2 := congrArg Int.natAbs (h1 k hk)
    rw [Int.natAbs_mul, Int.natAbs_mul, Int.natAbs_pow, Int.natAbs_pow] at h2
    have e1 : (fl_m s m).natAbs = m := by unfold fl_m; cases s <;> simp
    rw [e1] at h2
    exact h2
  have hc : Toward.zero.cut s (m <<< i.toNat) (-i).toNat = a.natAbs := by
    rw [Nat.shiftLeft_eq]
    rcases Int.le_total 0 i with hi | hi
    · have h0 := hN 0 (by omega)
      rw [Nat.pow_zero, Nat.mul_one] at h0
      rw [show (-i).toNat = 0 by omega, ← h0, show (i + ((0 : Nat) : Int)).toNat = i.toNat by omega]
      unfold Toward.cut
      simp [Nat.mod_one]
    · have h0 := hN (-i).toNat (by omega)
      rw [show (i + ((-i).toNat : Int)).toNat = 0 by omega, Nat.pow_zero, Nat.mul_one] at h0
      rw [show i.toNat = 0 by omega, Nat.pow_zero, Nat.mul_one]
      by_cases ha : a.natAbs = 0
      · rw [ha, Nat.zero_mul] at h0
        subst h0
        rw [ha]
        unfold Toward.cut
        simp
      · have hlog := fl_log (-i).toNat a.natAbs ha
        rw [← h0] at hlog
        unfold Toward.cut
        rw [Nat.min_eq_left (by omega), Nat.one_shiftLeft]
        have hp := Nat.two_pow_pos (-i).toNat
        have e1 : m / 2 ^ (-i).toNat = a.natAbs := by rw [h0]; exact Nat.mul_div_cancel _ hp
        have e2 : m % 2 ^ (-i).toNat = 0 := by rw [h0]; exact Nat.mul_mod_left _ _
        simp only [e1, e2]
        simp
  have hs : signed s a.natAbs 0 = a := by
    rw [fl_signed, Int.pow_zero, Int.mul_one]
    have h5 := h1 (-i).toNat (by omega)
    have hp1 : (0 : Int) < 2 ^ (i + ((-i).toNat : Int)).toNat := Int.pow_pos (by decide)
    have hp2 : (0 : Int) < 2 ^ (-i).toNat := Int.pow_pos (by decide)
    unfold fl_m at h5 ⊢
    cases s
    · simp only [Bool.false_eq_true, if_false] at h5 ⊢
      have h6 : 0 ≤ a * 2 ^ (-i).toNat := by rw [← h5]; exact Int.mul_nonneg (by omega) (Int.le_of_lt hp1)
      have : 0 ≤ a := by
        rcases (show a < 0 ∨ 0 ≤ a by omega) with h0 | h0
        · have := Int.mul_neg_of_neg_of_pos h0 hp2; omega
        · exact h0
      omega
    · simp only [if_true] at h5 ⊢
      have h6 : a * 2 ^ (-i).toNat ≤ 0 := by
        rw [← h5, Int.neg_mul]
        have := Int.mul_nonneg (show (0 : Int) ≤ (m : Int) by omega) (Int.le_of_lt hp1)
        omega
      have : a ≤ 0 := by
        rcases (show 0 < a ∨ a ≤ 0 by omega) with h0 | h0
        · have := Int.mul_pos h0 hp2; omega
        · omega
      omega
  unfold floatToIntVal
  have ht : (FloatKind.f64.decode x).toInt .zero = some a := by
    show (double.read x).toInt .zero = some a
    rw [hd]
    show some (signed s (Toward.zero.cut s (m <<< i.toNat) (-i).toNat) 0) = some a
    rw [hc, hs]
  rw [ht]
  simp only
  rw [if_pos (by exact h)]
theorem fl_cmul {a b c d : Nat} {A B C D : Int} (ha : Fl a A) (hb : Fl b B) (hc : Fl c C) (hd : Fl d D) (h1 : (A * C).natAbs < 2 ^ 53) (h2 : (B * D).natAbs < 2 ^ 53) (h3 : (A * C - B * D).natAbs < 2 ^ 53) (h4 : (A * D).natAbs < 2 ^ 53) (h5 : (B * C).natAbs < 2 ^ 53) (h6 : (A * D + B * C).natAbs < 2 ^ 53) :
    ∃ re im, cMulBits a b c d = some (re, im) ∧ Fl re (A * C - B * D) ∧ Fl im (A * D + B * C) := by
  obtain ⟨ac, e1, f1⟩ := fl_mul ha hc h1
  obtain ⟨bd, e2, f2⟩ := fl_mul hb hd h2
  obtain ⟨re, e3, f3⟩ := fl_sub f1 f2 h3
  obtain ⟨ad, e4, f4⟩ := fl_mul ha hd h4
  obtain ⟨bc, e5, f5⟩ := fl_mul hb hc h5
  obtain ⟨im, e6, f6⟩ := fl_add f4 f5 h6
  refine ⟨re, im, ?_, f3, f6⟩
  unfold cMulBits
  rw [e1, Option.bind_some, e2, Option.bind_some, e3, Option.bind_some, e4, Option.bind_some, e5, Option.bind_some, e6, Option.bind_some]
theorem fl_csum {a b c d : Nat} {A B C D : Int} (ha : Fl a A) (hb : Fl b B) (hc : Fl c C) (hd : Fl d D) (h1 : (A + C).natAbs < 2 ^ 53) (h2 : (B + D).natAbs < 2 ^ 53) :
    ∃ re im, cSumBits .add .f64 a b c d = some (re, im) ∧ Fl re (A + C) ∧ Fl im (B + D) := by
  obtain ⟨re, e1, f1⟩ := fl_add ha hc h1
  obtain ⟨im, e2, f2⟩ := fl_add hb hd h2
  refine ⟨re, im, ?_, f1, f2⟩
  unfold cSumBits
  rw [e1, Option.bind_some, e2, Option.bind_some]
theorem fl_csub {a b c d : Nat} {A B C D : Int} (ha : Fl a A) (hb : Fl b B) (hc : Fl c C) (hd : Fl d D) (h1 : (A - C).natAbs < 2 ^ 53) (h2 : (B - D).natAbs < 2 ^ 53) :
    ∃ re im, cSumBits .sub .f64 a b c d = some (re, im) ∧ Fl re (A - C) ∧ Fl im (B - D) := by
  obtain ⟨re, e1, f1⟩ := fl_sub ha hc h1
  obtain ⟨im, e2, f2⟩ := fl_sub hb hd h2
  refine ⟨re, im, ?_, f1, f2⟩
  unfold cSumBits
  rw [e1, Option.bind_some, e2, Option.bind_some]
theorem fl_gt {x y : Nat} {a b : Int} (hx : Fl x a) (hy : Fl y b) : (FloatKind.f64.format.order x y == some Ordering.gt) = decide (b < a) := by
  rw [fl_fmt hx hy]
  by_cases h : b < a
  · rw [decide_eq_true h, Int.compare_eq_gt.mpr h]; rfl
  · rw [decide_eq_false h]
    rcases (show a < b ∨ a = b by omega) with h2 | h2
    · rw [Int.compare_eq_lt.mpr h2]; rfl
    · subst h2; simp
theorem fl_eq {x y : Nat} {a b : Int} (hx : Fl x a) (hy : Fl y b) : (FloatKind.f64.format.order x y == some Ordering.eq) = decide (a = b) := by
  rw [fl_fmt hx hy]
  by_cases h : a = b
  · subst h; simp
  · rw [decide_eq_false h]
    rcases (show a < b ∨ b < a by omega) with h2 | h2
    · rw [Int.compare_eq_lt.mpr h2]; rfl
    · rw [Int.compare_eq_gt.mpr h2]; rfl
theorem fl_0 : Fl 0 0 := fl_lit (by decide) (by decide +kernel)
theorem fl_1 : Fl 4607182418800017408 1 := fl_lit (by decide) (by decide +kernel)
theorem fl_far : Fl 4787326403894837248 1099511627776 := fl_lit (by decide) (by decide +kernel)
end Go.Proofs.Ytbfepcajbbeheaa.C

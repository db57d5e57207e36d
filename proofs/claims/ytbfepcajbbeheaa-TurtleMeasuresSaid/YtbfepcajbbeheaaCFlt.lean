/- Whole numbers as floats of 64 bits: what a sum, a difference, a product and a comparison give. No program in sight. -/
import Derived.Laws.FloatArith
import Derived.Laws.ComplexArith
namespace Go.Proofs.Ytbfepcajbbeheaa.C
open Go Ieee
set_option linter.unusedSimpArgs false
set_option linter.unusedVariables false

def fl_m (s : Bool) (m : Nat) : Int := if s then -(m : Int) else (m : Int)
theorem fl_signed (s : Bool) (m u : Nat) : signed s m u = fl_m s m * 2 ^ u := by
  unfold signed fl_m
  cases s <;> simp [Nat.shiftLeft_eq, Int.neg_mul]
theorem fl_pow_ne (k : Nat) : (2 : Int) ^ k ≠ 0 := Int.ne_of_gt (Int.pow_pos (by decide))
/-- What a datum is worth, where it is a whole number. -/
def flIs (d : Datum) (n : Int) : Prop := ∃ s m e, d = .number s m e ∧ ∀ k : Nat, 0 ≤ e + k → fl_m s m * 2 ^ (e + k).toNat = n * 2 ^ k
theorem flIs_of (s : Bool) (m : Nat) (e n : Int) (k : Nat) (hk : 0 ≤ e + k) (h : fl_m s m * 2 ^ (e + k).toNat = n * 2 ^ k) : flIs (.number s m e) n := by
  refine ⟨s, m, e, rfl, fun j hj => ?_⟩
  generalize fl_m s m = M at *
  rcases Nat.le_total k j with hkj | hkj
  · rw [show (e + j).toNat = (e + k).toNat + (j - k) by omega, Int.pow_add, ← Int.mul_assoc, h, Int.mul_assoc, ← Int.pow_add, show k + (j - k) = j by omega]
  · refine Int.eq_of_mul_eq_mul_right (fl_pow_ne (k - j)) ?_
    rw [Int.mul_assoc, ← Int.pow_add, Int.mul_assoc, ← Int.pow_add, show (e + j).toNat + (k - j) = (e + k).toNat by omega, show j + (k - j) = k by omega]
    exact h
/-- A float's bits that stand for a whole number. -/
def Fl (x : Nat) (n : Int) : Prop := flIs (double.read x) n
theorem fl_abs (t : Int) : fl_m (decide (t < 0)) t.natAbs = t := by
  unfold fl_m
  by_cases h : t < 0
  · rw [decide_eq_true h, if_pos rfl]; omega
  · rw [decide_eq_false h]; simp; omega
theorem flIs_sum {c d : Datum} {a b : Int} (hc : flIs c a) (hd : flIs d b) : ∃ r, c.sum d = some r ∧ flIs r (a + b) := by
  obtain ⟨s, m, i, rfl, h1⟩ := hc
  obtain ⟨t, n, j, rfl, h2⟩ := hd
  refine ⟨_, rfl, ?_⟩
  generalize hB : min i j = B
  have hi : B ≤ i := by omega
  have hj : B ≤ j := by omega
  generalize hT : signed s m (i - B).toNat + signed t n (j - B).toNat = T
  have hk : 0 ≤ B + ((-B).toNat : Int) := by omega
  have key : T * 2 ^ (B + ((-B).toNat : Int)).toNat = (a + b) * 2 ^ (-B).toNat := by
    rw [← hT, fl_signed, fl_signed, Int.add_mul, Int.mul_assoc, Int.mul_assoc, ← Int.pow_add, ← Int.pow_add]
    rw [show (i - B).toNat + (B + ((-B).toNat : Int)).toNat = (i + ((-B).toNat : Int)).toNat by omega, show (j - B).toNat + (B + ((-B).toNat : Int)).toNat = (j + ((-B).toNat : Int)).toNat by omega]
    rw [h1 _ (by omega), h2 _ (by omega), Int.add_mul]
  by_cases h0 : T = 0
  · subst h0
    rw [if_pos rfl]
    refine flIs_of _ _ _ _ (-B).toNat hk ?_
    rw [← key]
    unfold fl_m
    split <;> simp
  · rw [if_neg h0]
    refine flIs_of _ _ _ _ (-B).toNat hk ?_
    rw [fl_abs]
    exact key
theorem fl_xor (s t : Bool) (m n : Nat) : fl_m (s ^^ t) (m * n) = fl_m s m * fl_m t n := by
  unfold fl_m
  cases s <;> cases t <;> simp [Int.neg_mul, Int.mul_neg]
theorem flIs_product {c d : Datum} {a b : Int} (hc : flIs c a) (hd : flIs d b) : ∃ r, c.product d = some r ∧ flIs r (a * b) := by
  obtain ⟨s, m, i, rfl, h1⟩ := hc
  obtain ⟨t, n, j, rfl, h2⟩ := hd
  refine ⟨_, rfl, flIs_of _ _ _ _ ((-i).toNat + (-j).toNat) (by omega) ?_⟩
  have e1 := h1 (-i).toNat (by omega)
  have e2 := h2 (-j).toNat (by omega)
  rw [fl_xor, show (i + j + (((-i).toNat + (-j).toNat : Nat) : Int)).toNat = (i + ((-i).toNat : Int)).toNat + (j + ((-j).toNat : Int)).toNat by omega, Int.pow_add, Int.pow_add]
  have e : fl_m s m * fl_m t n * (2 ^ (i + ((-i).toNat : Int)).toNat * 2 ^ (j + ((-j).toNat : Int)).toNat) = (fl_m s m * 2 ^ (i + ((-i).toNat : Int)).toNat) * (fl_m t n * 2 ^ (j + ((-j).toNat : Int)).toNat) := by ac_rfl
  rw [e, e1, e2]
  ac_rfl
theorem flIs_opposite {c : Datum} {a : Int} (hc : flIs c a) : flIs c.opposite (-a) := by
  obtain ⟨s, m, i, rfl, h1⟩ := hc
  refine ⟨!s, m, i, rfl, fun k hk => ?_⟩
  have := h1 k hk
  rw [Int.neg_mul, ← this]
  unfold fl_m
  cases s <;> simp [Int.neg_mul]
/-- What is written of a whole number is read again. -/
theorem fl_log (a N : Nat) (hN : N ≠ 0) : (N * 2 ^ a).log2 = N.log2 + a := by
  have h1 := Nat.log2_self_le hN
  have h2 := @Nat.lt_log2_self N
  have hne : N * 2 ^ a ≠ 0 := Nat.mul_ne_zero hN (by have := Nat.two_pow_pos a; omega)
  refine (Nat.log2_eq_iff hne).mpr ⟨?_, ?_⟩
  · rw [Nat.pow_add]; exact Nat.mul_le_mul_right _ h1
  · rw [show N.log2 + a + 1 = (N.log2 + 1) + a by omega, Nat.pow_add]; exact Nat.mul_lt_mul_of_pos_right h2 (Nat.two_pow_pos a)
theorem fl_word (s : Bool) (p K : Nat) (hp : p ≤ 1100) (h1 : 2 ^ 52 ≤ K) (h2 : K < 2 ^ 53) : double.read (double.word s (min (p * double.binade + K) double.infRung)) = .number s K (p - 1074) := by
  have eb : double.binade = 2 ^ 52 := rfl
  have ei : double.infRung = 2047 * 2 ^ 52 := rfl
  have es : double.signWeight = 2 ^ 63 := rfl
  have el : double.leastPlace = -1074 := rfl
  rw [eb, ei, Nat.min_eq_left (by omega)]
  have hw : double.word s (p * 2 ^ 52 + K) / double.signWeight % 2 = (if s then 1 else 0) ∧ double.word s (p * 2 ^ 52 + K) % double.signWeight = p * 2 ^ 52 + K := by
    unfold Format.word
    rw [es]
    cases s <;> simp <;> omega
  unfold Format.read
  rw [hw.1, hw.2, eb, ei, el]
  have hs : ((if s = true then 1 else 0) == 1) = s := by cases s <;> rfl
  simp only [hs]
  rw [if_neg (by omega), if_pos (by omega)]
  congr 1
  · omega
  · omega
set_option exponentiation.threshold 2000 in
theorem fl_zero (s : Bool) : double.read (double.word s 0) = .number s 0 (-1074) := by
  cases s <;> decide +kernel
/-- A number of at most 53 digits, whichever way it is told, comes to one datum. -/
theorem fl_nearest (s : Bool) (m : Nat) (e : Int) (N : Nat) (hN : N < 2 ^ 53) (h : ∀ k : Nat, 0 ≤ e + k → m * 2 ^ (e + k).toNat = N * 2 ^ k) :
    ∃ m' e', double.read (double.nearest s m e) = .number s m' e' ∧ ∃ k : Nat, 0 ≤ e' + k ∧ m' * 2 ^ (e' + k).toNat = N * 2 ^ k := by
  unfold Format.nearest
  by_cases hm : m = 0
  · subst hm
    rw [if_pos rfl, fl_zero]
    refine ⟨0, -1074, rfl, 1074, by omega, ?_⟩
    have := h (-e).toNat (by omega)
    rw [Nat.zero_mul] at this ⊢
    have hz : N = 0 := by
      rcases Nat.mul_eq_zero.mp this.symm with h0 | h0
      · exact h0
      · have := Nat.two_pow_pos (-e).toNat; omega
    first | exact Nat.mul_eq_zero.mpr (.inl hz) | exact (Nat.mul_eq_zero.mpr (.inl hz)).symm
  · rw [if_neg hm]
    have hN0 : N ≠ 0 := by
      rintro rfl
      have := h (-e).toNat (by omega)
      rw [Nat.zero_mul] at this
      rcases Nat.mul_eq_zero.mp this with h0 | h0
      · exact hm h0
      · have := Nat.two_pow_pos (e + ((-e).toNat : Int)).toNat; omega
    have hl : N.log2 ≤ 52 := by
      have := (Nat.log2_lt hN0).mpr hN
      omega
    have h52 : 2 ^ 52 ≤ N * 2 ^ (52 - N.log2) := by
      have h1 := Nat.log2_self_le hN0
      calc 2 ^ 52 = 2 ^ N.log2 * 2 ^ (52 - N.log2) := by rw [← Nat.pow_add]; congr 1; omega
        _ ≤ _ := Nat.mul_le_mul_right _ h1
    have h53 : N * 2 ^ (52 - N.log2) < 2 ^ 53 := by
      have h1 := @Nat.lt_log2_self N
      calc N * 2 ^ (52 - N.log2) < 2 ^ (N.log2 + 1) * 2 ^ (52 - N.log2) := Nat.mul_lt_mul_of_pos_right h1 (Nat.two_pow_pos _)
        _ = 2 ^ 53 := by rw [← Nat.pow_add]; congr 1; omega
    have hlog : e + (m.log2 : Int) = (N.log2 : Int) := by
      rcases Int.le_total 0 e with he | he
      · have h0 := h 0 (by omega)
        rw [Nat.pow_zero, Nat.mul_one] at h0
        rw [← h0, fl_log _ _ hm]
        omega
      · have h0 := h (-e).toNat (by omega)
        rw [show (e + ((-e).toNat : Int)).toNat = 0 by omega, Nat.pow_zero, Nat.mul_one] at h0
        rw [h0, fl_log _ _ hN0]
        omega
    have hlast : max (e + (m.log2 : Int) - (double.fractionBits : Nat)) double.leastPlace = (N.log2 : Int) - 52 := by
      rw [hlog, show ((double.fractionBits : Nat) : Int) = 52 from rfl, show double.leastPlace = -1074 from rfl]
      omega
    simp only [hlast]
    have hkept : Toward.even.cut s (m <<< (e - ((N.log2 : Int) - 52)).toNat) (((N.log2 : Int) - 52) - e).toNat = N * 2 ^ (52 - N.log2) := by
      rw [Nat.shiftLeft_eq]
      rcases Int.le_total ((N.log2 : Int) - 52) e with he | he
      · rw [show (((N.log2 : Int) - 52) - e).toNat = 0 by omega]
        have h0 := h (52 - N.log2) (by omega)
        have e1 : (e + ((52 - N.log2 : Nat) : Int)).toNat = (e - ((N.log2 : Int) - 52)).toNat := by omega
        rw [e1] at h0
        rw [h0]
        unfold Toward.cut
        simp [Nat.mod_one]
      · rw [show (e - ((N.log2 : Int) - 52)).toNat = 0 by omega, Nat.pow_zero, Nat.mul_one]
        have h0 := h (-e).toNat (by omega)
        rw [show (e + ((-e).toNat : Int)).toNat = 0 by omega, Nat.pow_zero, Nat.mul_one] at h0
        have hd : (((N.log2 : Int) - 52) - e).toNat ≤ m.log2 + 2 := by omega
        have hm2 : m = N * 2 ^ (52 - N.log2) * 2 ^ (((N.log2 : Int) - 52) - e).toNat := by
          rw [h0, Nat.mul_assoc, ← Nat.pow_add]
          congr 2
          omega
        generalize N * 2 ^ (52 - N.log2) = Z at hm2
        generalize (((N.log2 : Int) - 52) - e).toNat = D at hd hm2
        unfold Toward.cut
        rw [Nat.min_eq_left hd, Nat.one_shiftLeft]
        have hp := Nat.two_pow_pos D
        have e1 : m / 2 ^ D = Z := by rw [hm2]; exact Nat.mul_div_cancel _ hp
        have e2 : m % 2 ^ D = 0 := by rw [hm2]; exact Nat.mul_mod_left _ _
        simp only [e1, e2]
        have hne : ¬ 2 ^ D = 0 := by omega
        simp [hne]
    rw [hkept, show double.leastPlace = -1074 from rfl]
    rw [show ((N.log2 : Int) - 52 - -1074).toNat = N.log2 + 1022 by omega]
    rw [fl_word s _ _ (by omega) h52 h53]
    refine ⟨_, _, rfl, 52 - N.log2, by omega, ?_⟩
    rw [show (((N.log2 + 1022 : Nat) : Int) - 1074 + ((52 - N.log2 : Nat) : Int)).toNat = 0 by omega, Nat.pow_zero, Nat.mul_one]
theorem fl_write {d : Datum} {n : Int} (h : flIs d n) (hn : n.natAbs < 2 ^ 53) : Fl (double.write d) n := by
  obtain ⟨s, m, e, rfl, h⟩ := h
  have hm : ∀ k : Nat, 0 ≤ e + k → m * 2 ^ (e + k).toNat = n.natAbs * 2 ^ k := by
    intro k hk
    have h1 := congrArg Int.natAbs (h k hk)
    rw [Int.natAbs_mul, Int.natAbs_mul, Int.natAbs_pow, Int.natAbs_pow] at h1
    have e1 : (fl_m s m).natAbs = m := by unfold fl_m; cases s <;> simp
    rw [e1] at h1
    exact h1
  obtain ⟨m', e', h1, k, h2, h3⟩ := fl_nearest s m e n.natAbs hn hm
  unfold Fl
  show flIs (double.read (double.nearest s m e)) n
  rw [h1]
  refine flIs_of _ _ _ _ k h2 ?_
  have hs : (fl_m s m' : Int) * 2 ^ (e' + k).toNat = fl_m s (n.natAbs) * 2 ^ k := by
    have h4 : ((m' * 2 ^ (e' + k).toNat : Nat) : Int) = ((n.natAbs * 2 ^ k : Nat) : Int) := by rw [h3]
    rw [Int.natCast_mul, Int.natCast_mul, Int.natCast_pow, Int.natCast_pow] at h4
    unfold fl_m
    cases s
    · simpa using h4
    · simp only [if_true, Int.neg_mul]
      simpa using h4
  rw [hs]
  congr 1
  -- the sign is n's, or n is 0
  have h5 := h (-e).toNat (by omega)
  have hp1 : (0 : Int) < 2 ^ (e + ((-e).toNat : Int)).toNat := Int.pow_pos (by decide)
  have hp2 : (0 : Int) < 2 ^ (-e).toNat := Int.pow_pos (by decide)
  unfold fl_m at h5 ⊢
  cases s
  · simp only [Bool.false_eq_true, if_false] at h5 ⊢
    have : 0 ≤ n * 2 ^ (-e).toNat := by rw [← h5]; exact Int.mul_nonneg (by omega) (Int.le_of_lt hp1)
    have : 0 ≤ n := by
      rcases (show n < 0 ∨ 0 ≤ n by omega) with h0 | h0
      · have := Int.mul_neg_of_neg_of_pos h0 hp2; omega
      · exact h0
    omega
  · simp only [if_true] at h5 ⊢
    have : n * 2 ^ (-e).toNat ≤ 0 := by
      rw [← h5, Int.neg_mul]
      have := Int.mul_nonneg (show (0 : Int) ≤ (m : Int) by omega) (Int.le_of_lt hp1)
      omega
    have : n ≤ 0 := by
      rcases (show 0 < n ∨ n ≤ 0 by omega) with h0 | h0
      · have := Int.mul_pos h0 hp2; omega
      · omega
    omega
theorem fl_add {x y : Nat} {a b : Int} (hx : Fl x a) (hy : Fl y b) (h : (a + b).natAbs < 2 ^ 53) : ∃ r, floatBits .add .f64 x y = some r ∧ Fl r (a + b) := by
  obtain ⟨d, h1, h2⟩ := flIs_sum hx hy
  refine ⟨double.write d, ?_, fl_write h2 h⟩
  show (((double.read x).sum (double.read y)).map double.write) = _
  rw [h1]; rfl
theorem fl_sub {x y : Nat} {a b : Int} (hx : Fl x a) (hy : Fl y b) (h : (a - b).natAbs < 2 ^ 53) : ∃ r, floatBits .sub .f64 x y = some r ∧ Fl r (a - b) := by
  obtain ⟨d, h1, h2⟩ := flIs_sum hx (flIs_opposite hy)
  rw [show a + -b = a - b by omega] at h2
  refine ⟨double.write d, ?_, fl_write h2 h⟩
  show (((double.read x).sum (double.read y).opposite).map double.write) = _
  rw [h1]; rfl
theorem fl_mul {x y : Nat} {a b : Int} (hx : Fl x a) (hy : Fl y b) (h : (a * b).natAbs < 2 ^ 53) : ∃ r, floatBits .mul .f64 x y = some r ∧ Fl r (a * b) := by
  obtain ⟨d, h1, h2⟩ := flIs_product hx hy
  refine ⟨double.write d, ?_, fl_write h2 h⟩
  show (((double.read x).product (double.read y)).map double.write) = _
  rw [h1]; rfl
theorem fl_ofInt {n : Int} (h : n.natAbs < 2 ^ 53) : Fl (floatOfInt .f64 n) n := by
  have h1 : flIs (.number (decide (n < 0)) n.natAbs 0) n := flIs_of _ _ _ _ 0 (by omega) (by rw [fl_abs]; simp)
  exact fl_write h1 h
theorem fl_order {x y : Nat} {a b : Int} (hx : Fl x a) (hy : Fl y b) : double.order x y = some (compare a b) := by
  obtain ⟨s, m, i, e1, h1⟩ := hx
  obtain ⟨t, n, j, e2, h2⟩ := hy
  unfold Format.order
  rw [e1, e2]
  show some (compare (signed s m (i - min i j).toNat) (signed t n (j - min i j).toNat)) = _
  congr 1
  generalize hB : min i j = B
  have hi : B ≤ i := by omega
  have hj : B ≤ j := by omega
  -- both times 2 ^ (B + K), where K is -B
  have k1 : signed s m (i - B).toNat * 2 ^ (B + ((-B).toNat : Int)).toNat = a * 2 ^ (-B).toNat := by
    rw [fl_signed, Int.mul_assoc, ← Int.pow_add, show (i - B).toNat + (B + ((-B).toNat : Int)).toNat = (i + ((-B).toNat : Int)).toNat by omega]
    exact h1 _ (by omega)
  have k2 : signed t n (j - B).toNat * 2 ^ (B + ((-B).toNat : Int)).toNat = b * 2 ^ (-B).toNat := by
    rw [fl_signed, Int.mul_assoc, ← Int.pow_add, show (j - B).toNat + (B + ((-B).toNat : Int)).toNat = (j + ((-B).toNat : Int)).toNat by omega]
    exact h2 _ (by omega)
  have hp1 : (0 : Int) < 2 ^ (B + ((-B).toNat : Int)).toNat := Int.pow_pos (by decide)
  have hp2 : (0 : Int) < 2 ^ (-B).toNat := Int.pow_pos (by decide)
  generalize signed s m (i - B).toNat = X at k1 ⊢
  generalize signed t n (j - B).toNat = Y at k2 ⊢
  generalize (2 : Int) ^ (B + ((-B).toNat : Int)).toNat = P at *
  generalize (2 : Int) ^ (-B).toNat = R at *
  rcases Int.lt_trichotomy a b with h | h | h
  · have l1 : a * R < b * R := Int.mul_lt_mul_of_pos_right h hp2
    have l2 : X < Y := by
      rcases (show X < Y ∨ Y ≤ X by omega) with h0 | h0
      · exact h0
      · have := Int.mul_le_mul_of_nonneg_right h0 (Int.le_of_lt hp1); omega
    rw [Int.compare_eq_lt.mpr h, Int.compare_eq_lt.mpr l2]
  · subst h
    have l2 : X = Y := Int.eq_of_mul_eq_mul_right (Int.ne_of_gt hp1) (k1.trans k2.symm)
    rw [l2]
    simp
  · have l1 : b * R < a * R := Int.mul_lt_mul_of_pos_right h hp2
    have l2 : Y < X := by
      rcases (show Y < X ∨ X ≤ Y by omega) with h0 | h0
      · exact h0
      · have := Int.mul_le_mul_of_nonneg_right h0 (Int.le_of_lt hp1); omega
    rw [Int.compare_eq_gt.mpr h, Int.compare_eq_gt.mpr l2]
end Go.Proofs.Ytbfepcajbbeheaa.C

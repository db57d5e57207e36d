/- Segments: which lists are tried, which rise; what is found in them by halves, and one by one. -/
import Derived.Test.YtemkjnjfblliaaaPx4
import Derived.Test.YtemkjnjfblliaaaPx6
import Derived.Test.YtemkjnjfblliaaaPx10
import Derived.Test.YtemkjnjfblliaaaPx12
import Derived.Test.YtemkjnjfblliaaaPx13
import Derived.Test.YtemkjnjfblliaaaPx14
import Derived.Test.YtemkjnjfblliaaaCWord
namespace Go.Proofs.Ytemkjnjfblliaaa.Q
set_option linter.unusedSimpArgs false
set_option linter.unusedVariables false
open Go Go.RowKit Go.Proofs.Ytemkjnjfblliaaa.P Go.Proofs.Ytemkjnjfblliaaa.C Go.Proofs.YtemkjnjfblliaaaW.PrintWords
theorem wrap_up {i : Int} (h0 : -1000 ≤ i) (h : i ≤ 1000000) : wrap64 (i + 1) = i + 1 := by unfold wrap64; omega
theorem wrap_down {i : Int} (h0 : -1000 ≤ i) (h : i ≤ 1000000) : wrap64 (i - 1) = i - 1 := by unfold wrap64; omega
def Near (l : List S29) : Prop := ∀ i : Int, 0 ≤ i → i < l.length → (-1000000 ≤ (rd_T29 l i).f0 ∧ (rd_T29 l i).f0 ≤ 1000000) ∧ (-1000000 ≤ (rd_T29 l i).f1 ∧ (rd_T29 l i).f1 ≤ 1000000)
def Rise (l : List S29) : Prop := ∀ i : Int, 1 ≤ i → i < l.length → (rd_T29 l (i - 1)).f0 < (rd_T29 l i).f0
theorem few_loop (l : List S29) (hl : l.length ≤ 100) (d : Nat) : ∀ (k : Nat) (i : Int), 0 ≤ i → i ≤ l.length → (l.length : Int) - i = d → d < k →
    ∃ b, pascalinelaw16_few.l0 k l i = some b ∧ (b = true → ∀ j : Int, i ≤ j → j < l.length → (-1000000 ≤ (rd_T29 l j).f0 ∧ (rd_T29 l j).f0 ≤ 1000000) ∧ (-1000000 ≤ (rd_T29 l j).f1 ∧ (rd_T29 l j).f1 ≤ 1000000)) := by
  induction d with
  | zero =>
    intro k i h0 h1 hd hk
    obtain ⟨k, rfl⟩ : ∃ m, k = m + 1 := ⟨k - 1, by omega⟩
    exact ⟨true, by simp only [pascalinelaw16_few.l0]; rw [if_neg (by omega)], fun _ j h2 h3 => by omega⟩
  | succ d ih =>
    intro k i h0 h1 hd hk
    obtain ⟨k, rfl⟩ : ∃ m, k = m + 1 := ⟨k - 1, by omega⟩
    obtain ⟨b, hb, hall⟩ := ih k (i + 1) (by omega) (by omega) (by omega) (by omega)
    simp only [pascalinelaw16_few.l0]
    rw [if_pos (by omega), if_pos h0]
    by_cases c1 : (rd_T29 l i).f0 < -1000000
    · exact ⟨false, by rw [if_pos c1], fun h => by cases h⟩
    rw [if_neg c1]
    by_cases c2 : (rd_T29 l i).f0 > 1000000
    · exact ⟨false, by rw [if_pos c2], fun h => by cases h⟩
    rw [if_neg c2]
    by_cases c3 : (rd_T29 l i).f1 < -1000000
    · exact ⟨false, by rw [if_pos c3], fun h => by cases h⟩
    rw [if_neg c3]
    by_cases c4 : (rd_T29 l i).f1 > 1000000
    · exact ⟨false, by rw [if_pos c4], fun h => by cases h⟩
    rw [if_neg c4, wrap_up (by omega) (by omega)]
    refine ⟨b, hb, fun h j h2 h3 => ?_⟩
    by_cases hj : j = i
    · subst hj; omega
    · exact hall h j (by omega) h3
theorem few_spec (k : Nat) (hk : 102 ≤ k) (l : List S29) : ∃ b, pascalinelaw16_few.f k l = some b ∧ (b = true → l.length ≤ 100 ∧ Near l) := by
  unfold pascalinelaw16_few.f
  by_cases hl : (l.length : Int) > 100
  · exact ⟨false, by rw [if_pos hl], fun h => by cases h⟩
  · rw [if_neg hl]
    obtain ⟨b, hb, h⟩ := few_loop l (by omega) l.length k 0 (by omega) (by omega) (by omega) (by omega)
    exact ⟨b, hb, fun e => ⟨by omega, fun i h0 h1 => h e i h0 h1⟩⟩
theorem rising_loop (l : List S29) (hl : l.length ≤ 100) (d : Nat) : ∀ (k : Nat) (i : Int), 1 ≤ i → (l.length : Int) - i ≤ d → d < k →
    ∃ b, pascalinelaw16_rising.l0 k l i = some b ∧ (b = true → ∀ j : Int, i ≤ j → j < l.length → (rd_T29 l (j - 1)).f0 < (rd_T29 l j).f0) := by
  induction d with
  | zero =>
    intro k i h0 hd hk
    obtain ⟨k, rfl⟩ : ∃ m, k = m + 1 := ⟨k - 1, by omega⟩
    exact ⟨true, by simp only [pascalinelaw16_rising.l0]; rw [if_neg (by omega)], fun _ j h2 h3 => by omega⟩
  | succ d ih =>
    intro k i h0 hd hk
    obtain ⟨k, rfl⟩ : ∃ m, k = m + 1 := ⟨k - 1, by omega⟩
    by_cases hi : i < l.length
    · obtain ⟨b, hb, hall⟩ := ih k (i + 1) (by omega) (by omega) (by omega)
      simp only [pascalinelaw16_rising.l0]
      rw [wrap_down (by omega) (by omega), if_pos hi, if_pos (by omega), if_pos (by omega), if_pos (by omega)]
      by_cases c1 : (rd_T29 l i).f0 ≤ (rd_T29 l (i - 1)).f0
      · exact ⟨false, by rw [if_pos c1], fun h => by cases h⟩
      rw [if_neg c1, wrap_up (by omega) (by omega)]
      refine ⟨b, hb, fun h j h2 h3 => ?_⟩
      by_cases hj : j = i
      · subst hj; omega
      · exact hall h j (by omega) h3
    · exact ⟨true, by simp only [pascalinelaw16_rising.l0]; rw [if_neg hi], fun _ j h2 h3 => by omega⟩
theorem rising_spec (k : Nat) (hk : 102 ≤ k) (l : List S29) (hl : l.length ≤ 100) : ∃ b, pascalinelaw16_rising.f k l = some b ∧ (b = true → Rise l) := by
  unfold pascalinelaw16_rising.f
  obtain ⟨b, hb, h⟩ := rising_loop l hl l.length k 1 (by omega) (by omega) (by omega)
  exact ⟨b, hb, h⟩
theorem Rise.le {l : List S29} (h : Rise l) (d : Nat) : ∀ i j : Int, 0 ≤ i → j < l.length → j - i = d → (rd_T29 l i).f0 ≤ (rd_T29 l j).f0 := by
  induction d with
  | zero => intro i j _ _ hd; rw [show i = j by omega]; exact Int.le_refl _
  | succ d ih =>
    intro i j h0 h1 hd
    have a := ih i (j - 1) h0 (by omega) (by omega)
    have b := h j (by omega) h1
    omega
theorem Rise.lt {l : List S29} (h : Rise l) {i j : Int} (h0 : 0 ≤ i) (hij : i < j) (h1 : j < l.length) : (rd_T29 l i).f0 < (rd_T29 l j).f0 := by
  have a := Rise.le h (j - 1 - i).toNat i (j - 1) h0 (by omega) (by omega)
  have b := h j (by omega) h1
  omega
theorem bs_spec (p : Nat → Bool) (n : Nat) (mono : ∀ i j, i ≤ j → j < n → p i = true → p j = true) (k : Nat) : ∀ lo hi, hi - lo ≤ k → lo ≤ hi → hi ≤ n → (∀ i, i < lo → p i = false) → (∀ i, hi ≤ i → i < n → p i = true) →
    (∀ i, i < ranges_Find.bs p k lo hi → p i = false) ∧ (∀ i, ranges_Find.bs p k lo hi ≤ i → i < n → p i = true) := by
  induction k with
  | zero =>
    intro lo hi h1 h2 h3 ha hb
    unfold ranges_Find.bs
    exact ⟨ha, fun i h h' => hb i (by omega) h'⟩
  | succ k ih =>
    intro lo hi h1 h2 h3 ha hb
    unfold ranges_Find.bs
    by_cases h : lo < hi
    · rw [if_pos h]
      by_cases hp : p ((lo + hi) / 2) = true
      · rw [if_pos hp]; exact ih lo ((lo + hi) / 2) (by omega) (by omega) (by omega) ha (fun i hi' hn => mono _ i hi' hn hp)
      · rw [if_neg hp]
        refine ih ((lo + hi) / 2 + 1) hi (by omega) (by omega) h3 (fun i hi' => ?_) hb
        cases hq : p i with
        | false => rfl
        | true => exact absurd (mono i _ (by omega) (by omega) hq) hp
    · rw [if_neg h]; exact ⟨ha, fun i hi' hn => hb i (by omega) hn⟩
/-- Where a list breaks off at a word: all ahead begin there or before, none behind. -/
def Break (l : List S29) (a : Int) (m : Nat) : Prop := m ≤ l.length ∧ (∀ i : Nat, i < m → (rd_T29 l i).f0 ≤ a) ∧ (∀ i : Nat, m ≤ i → i < l.length → a < (rd_T29 l i).f0)
theorem find_break {l : List S29} (h : Rise l) (hl : l.length ≤ 1000) (a : Int) : ∃ m, Break l a m ∧ ranges_Find.f l a = some (if m = 0 then -1 else (rd_T29 l ((m : Int) - 1)).f1) := by
  refine ⟨ranges_Find.at_ l a, ?_, by unfold ranges_Find.f; rw [if_pos (by omega)]⟩
  have hm := (ranges_Find.bs_le (ranges_Find.p l a) l.length 0 l.length (by omega)).2
  have hs := bs_spec (ranges_Find.p l a) l.length (fun i j hij hj hp => by
    unfold ranges_Find.p at *
    have e := Rise.le h (j - i) (i : Int) (j : Int) (by omega) (by omega) (by omega)
    have := of_decide_eq_true hp
    exact decide_eq_true (by omega)) l.length 0 l.length (by omega) (by omega) (by omega) (fun i hi => by omega) (fun i h1 h2 => by omega)
  refine ⟨hm, fun i hi => ?_, fun i hi hn => ?_⟩
  · have e := hs.1 i hi
    unfold ranges_Find.p at e
    have := of_decide_eq_false e
    omega
  · exact of_decide_eq_true (hs.2 i hi hn)
theorem break_one {l : List S29} {a : Int} {m m' : Nat} (h : Break l a m) (h' : Break l a m') : m = m' := by
  rcases Nat.lt_trichotomy m m' with c | c | c
  · have x := h.2.2 m (by omega) (by have := h'.1; omega); have y := h'.2.1 m c; omega
  · exact c
  · have x := h'.2.2 m' (by omega) (by have := h.1; omega); have y := h.2.1 m' c; omega
theorem ref_find {l : List S29} (hl : l.length ≤ 1000) {a : Int} {m : Nat} (h : Break l a m) (d : Nat) : ∀ (k : Nat) (i : Nat) (pad : Int), i ≤ m → m - i = d → d < k →
    pascalineref16_Find.l0 k l a pad i = some (if i = m then pad else (rd_T29 l ((m : Int) - 1)).f1) := by
  induction d with
  | zero =>
    intro k i pad hi hd hk
    obtain ⟨k, rfl⟩ : ∃ m, k = m + 1 := ⟨k - 1, by omega⟩
    have e : i = m := by omega
    simp only [pascalineref16_Find.l0]
    rw [if_pos e]
    by_cases c : (i : Int) < l.length
    · rw [if_pos c, if_pos (by omega), if_neg (by have := h.2.2 i (by omega) (by omega); omega)]
    · rw [if_neg c]
  | succ d ih =>
    intro k i pad hi hd hk
    obtain ⟨k, rfl⟩ : ∃ m, k = m + 1 := ⟨k - 1, by omega⟩
    have hm := h.1
    simp only [pascalineref16_Find.l0]
    rw [if_pos (by omega), if_pos (by omega), if_pos (h.2.1 i (by omega)), wrap_up (by omega) (by omega), if_neg (by omega), show ((i : Int) + 1) = ((i + 1 : Nat) : Int) by omega, ih k (i + 1) _ (by omega) (by omega) (by omega)]
    by_cases e : i + 1 = m
    · rw [if_pos e]; rw [show ((m : Int) - 1) = (i : Int) by omega]
    · rw [if_neg e]
theorem find_same {l : List S29} (h : Rise l) (hl : l.length ≤ 100) (a : Int) (k : Nat) (hk : 102 ≤ k) : ∃ r, ranges_Find.f l a = some r ∧ pascalineref16_Find.f k l a = some r := by
  obtain ⟨m, hb, hf⟩ := find_break h (by omega) a
  refine ⟨_, hf, ?_⟩
  unfold pascalineref16_Find.f
  have e := ref_find (by omega) hb m k 0 (-1) (by omega) (by omega) (by have := hb.1; omega)
  rw [show ((0 : Nat) : Int) = 0 from rfl] at e
  rw [e]
  by_cases c : m = 0
  · rw [if_pos c.symm, if_pos c]
  · rw [if_neg (fun e => c e.symm), if_neg c]
/-! Which lists may be. -/
theorem right_round (l : List S29) (s : Int) (k : Nat) (i : Int) (h0 : 0 ≤ i) (hi : i < l.length) (hl : l.length ≤ 100) :
    ranges_Right.l0 (k + 2) l s l (l.length : Int) i = if (rd_T29 l i).f0 ≥ s ∨ (rd_T29 l i).f1 < -1 ∨ (rd_T29 l i).f1 ≥ s then some false else if i > 0 ∧ ((rd_T29 l i).f0 ≤ (rd_T29 l (i - 1)).f0 ∨ (rd_T29 l i).f1 = (rd_T29 l (i - 1)).f1) then some false else ranges_Right.l0 k l s l (l.length : Int) (i + 1) := by
  simp only [ranges_Right.l0]
  rw [if_pos hi, if_pos h0, if_pos hi]
  simp only [ranges_Right.j2]
  rw [wrap_down (by omega) (by omega), wrap_up (by omega) (by omega)]
  by_cases c1 : (rd_T29 l i).f0 ≥ s
  · simp [c1]
  by_cases c2 : (rd_T29 l i).f1 < -1
  · simp [c2]
  by_cases c3 : (rd_T29 l i).f1 ≥ s
  · simp [c3]
  by_cases c4 : i > 0
  · have e1 : 0 ≤ i - 1 := by omega
    have e2 : i - 1 < (l.length : Int) := by omega
    have e3 : 1 ≤ i := by omega
    by_cases c5 : (rd_T29 l i).f0 ≤ (rd_T29 l (i - 1)).f0
    · simp [c1, c2, c3, c4, c5, e1, e2, e3]
    by_cases c6 : (rd_T29 l i).f1 = (rd_T29 l (i - 1)).f1
    · simp [c1, c2, c3, c4, c5, c6, e1, e2, e3]
      try (rw [← c6]; simp [c2, c3])
    · simp [c1, c2, c3, c4, c5, c6, e1, e2, e3]
  · simp [c1, c2, c3, c4]
theorem ref_right_round (l : List S29) (s : Int) (k : Nat) (i : Int) (h0 : 0 ≤ i) (hi : i < l.length) (hl : l.length ≤ 100) (hz : i = 0 → (rd_T29 l i).f0 = 0) :
    pascalineref16_Right.l0 (k + 2) l s i = if (rd_T29 l i).f0 ≥ s ∨ (rd_T29 l i).f1 < -1 ∨ (rd_T29 l i).f1 ≥ s then some false else if i > 0 ∧ ((rd_T29 l i).f0 ≤ (rd_T29 l (i - 1)).f0 ∨ (rd_T29 l i).f1 = (rd_T29 l (i - 1)).f1) then some false else pascalineref16_Right.l0 k l s (i + 1) := by
  simp only [pascalineref16_Right.l0]
  rw [if_pos hi, if_pos h0]
  simp only [pascalineref16_Right.j2]
  rw [wrap_down (by omega) (by omega), wrap_up (by omega) (by omega)]
  by_cases c4 : i > 0
  · have c7 : ¬ i = 0 := by omega
    rw [if_neg c7]
    have e1 : 0 ≤ i - 1 := by omega
    have e2 : i - 1 < (l.length : Int) := by omega
    have e3 : 1 ≤ i := by omega
    by_cases c1 : (rd_T29 l i).f0 ≥ s
    · simp [c1]
    by_cases c2 : (rd_T29 l i).f1 < -1
    · simp [c2]
    by_cases c3 : (rd_T29 l i).f1 ≥ s
    · simp [c3]
    by_cases c5 : (rd_T29 l i).f0 ≤ (rd_T29 l (i - 1)).f0
    · simp [c1, c2, c3, c4, c5, e1, e2, e3]
    by_cases c6 : (rd_T29 l i).f1 = (rd_T29 l (i - 1)).f1
    · simp [c1, c2, c3, c4, c5, c6, e1, e2, e3]
      try (rw [← c6]; simp [c2, c3])
    · simp [c1, c2, c3, c4, c5, c6, e1, e2, e3]
  · have c7 : i = 0 := by omega
    rw [if_pos c7, if_pos (hz c7)]
    by_cases c1 : (rd_T29 l i).f0 ≥ s
    · simp [c1]
    by_cases c2 : (rd_T29 l i).f1 < -1
    · simp [c2]
    by_cases c3 : (rd_T29 l i).f1 ≥ s
    · simp [c3]
    simp [c1, c2, c3, c4]
theorem right_loop (l : List S29) (s : Int) (hl : l.length ≤ 100) (hz : (rd_T29 l 0).f0 = 0) (d : Nat) : ∀ (k : Nat) (i : Int), 0 ≤ i → i ≤ l.length → (l.length : Int) - i = d → 2 * d < k →
    ∃ b, ranges_Right.l0 k l s l (l.length : Int) i = some b ∧ pascalineref16_Right.l0 k l s i = some b := by
  induction d with
  | zero =>
    intro k i h0 h1 hd hk
    obtain ⟨k, rfl⟩ : ∃ m, k = m + 1 := ⟨k - 1, by omega⟩
    exact ⟨true, by simp only [ranges_Right.l0]; rw [if_neg (by omega)], by simp only [pascalineref16_Right.l0]; rw [if_neg (by omega)]⟩
  | succ d ih =>
    intro k i h0 h1 hd hk
    obtain ⟨k, rfl⟩ : ∃ m, k = m + 2 := ⟨k - 2, by omega⟩
    obtain ⟨b, h2, h3⟩ := ih k (i + 1) (by omega) (by omega) (by omega) (by omega)
    rw [right_round l s k i h0 (by omega) hl, ref_right_round l s k i h0 (by omega) hl (fun e => by rw [e]; exact hz), h2, h3]
    by_cases c1 : (rd_T29 l i).f0 ≥ s ∨ (rd_T29 l i).f1 < -1 ∨ (rd_T29 l i).f1 ≥ s
    · exact ⟨false, by rw [if_pos c1], by rw [if_pos c1]⟩
    rw [if_neg c1]
    by_cases c2 : i > 0 ∧ ((rd_T29 l i).f0 ≤ (rd_T29 l (i - 1)).f0 ∨ (rd_T29 l i).f1 = (rd_T29 l (i - 1)).f1)
    · exact ⟨false, by rw [if_pos c2], by rw [if_pos c2]⟩
    · exact ⟨b, by rw [if_neg c2], by rw [if_neg c2]⟩
theorem right_same (l : List S29) (s : Int) (hl : l.length ≤ 100) (k : Nat) (hk : 210 ≤ k) : ∃ b, ranges_Right.f k l s = some b ∧ pascalineref16_Right.f k l s = some b := by
  obtain ⟨k, rfl⟩ : ∃ m, k = m + 1 := ⟨k - 1, by omega⟩
  unfold ranges_Right.f pascalineref16_Right.f
  by_cases h0 : s ≤ 0
  · rw [if_pos h0, if_pos (show s < 1 by omega)]
    simp only [pascalineref16_Right.j0, if_true]
    by_cases h1 : s = 0
    · exact ⟨_, by rw [if_pos h1], by rw [if_pos h1]⟩
    · exact ⟨_, by rw [if_neg h1], by rw [if_neg h1]⟩
  rw [if_neg h0, if_neg (show ¬ s < 1 by omega)]
  simp only [pascalineref16_Right.j0, ranges_Right.j0]
  by_cases h1 : (l.length : Int) = 0
  · refine ⟨false, by simp [h1], ?_⟩
    simp [h1]
    omega
  have h2 : 0 < (l.length : Int) := by omega
  have h3 : ((l.length : Int) == 0) = false := beq_eq_false_iff_ne.mpr h1
  rw [if_neg h1, if_pos h2, h3]
  by_cases hz : (rd_T29 l 0).f0 = 0
  · obtain ⟨b, h4, h5⟩ := right_loop l s hl hz l.length k 0 (by omega) (by omega) (by omega) (by omega)
    exact ⟨b, by rw [if_neg (by simp [hz])]; exact h4, by rw [if_neg (by simp)]; exact h5⟩
  · refine ⟨false, by rw [if_pos (by simp [hz])], ?_⟩
    obtain ⟨k, rfl⟩ : ∃ m, k = m + 2 := ⟨k - 2, by omega⟩
    rw [if_neg (by simp)]
    simp only [pascalineref16_Right.l0]
    rw [if_pos h2, if_pos (by omega), if_pos trivial, if_neg hz]
    simp only [pascalineref16_Right.j2, if_true]
end Go.Proofs.Ytemkjnjfblliaaa.Q

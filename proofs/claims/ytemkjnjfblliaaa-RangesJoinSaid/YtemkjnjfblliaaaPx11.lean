-- Written by a program of this session (wip/tools/hp.py) out of the translation.
import Derived.Test.YtemkjnjfblliaaaPx0
import Derived.Test.YtemkjnjfblliaaaPx2
import Derived.Test.YtemkjnjfblliaaaPx3
import Derived.Test.YtemkjnjfblliaaaPx4
import Derived.Test.YtemkjnjfblliaaaPx5
import Derived.Test.YtemkjnjfblliaaaPx6
import Derived.Test.YtemkjnjfblliaaaPx10
namespace Go.Proofs.Ytemkjnjfblliaaa.P
open Go.RowKit Go.Proofs.YtemkjnjfblliaaaW.PrintWords Go.Proofs.YtemkjnjfblliaaaW.PrintLast Go.Proofs.YtemkjnjfblliaaaW.PrintMore
attribute [local go_sem] max2_int min2_int max_two min_two max_three min_three max_four min_four   -- for this text's walks alone
set_option linter.unusedVariables false
set_option linter.unusedSimpArgs false

/-! ### pascalinelaw16_RangesFound: function 4 -/
theorem fq_wrap_up {i : Int} (h0 : -1000 ≤ i) (h : i ≤ 1000000) : wrap64 (i + 1) = i + 1 := by unfold wrap64; omega
theorem fq_wrap_down {i : Int} (h0 : -1000 ≤ i) (h : i ≤ 1000000) : wrap64 (i - 1) = i - 1 := by unfold wrap64; omega
def fq_Near (l : List S29) : Prop := ∀ i : Int, 0 ≤ i → i < l.length → (-1000000 ≤ (rd_T29 l i).f0 ∧ (rd_T29 l i).f0 ≤ 1000000) ∧ (-1000000 ≤ (rd_T29 l i).f1 ∧ (rd_T29 l i).f1 ≤ 1000000)
def fq_Rise (l : List S29) : Prop := ∀ i : Int, 1 ≤ i → i < l.length → (rd_T29 l (i - 1)).f0 < (rd_T29 l i).f0
theorem fq_few_loop (l : List S29) (hl : l.length ≤ 100) (d : Nat) : ∀ (k : Nat) (i : Int), 0 ≤ i → i ≤ l.length → (l.length : Int) - i = d → d < k →
    ∃ b, pascalinelaw16_few.l0 k l i = some b ∧ (b = true → ∀ j : Int, i ≤ j → j < l.length → (-1000000 ≤ (rd_T29 l j).f0 ∧ (rd_T29 l j).f0 ≤ 1000000) ∧ (-1000000 ≤ (rd_T29 l j).f1 ∧ (rd_T29 l j).f1 ≤ 1000000)) := by
  induction d with
  | zero =>
    intro k i h0 h1 hd hk
    obtain ⟨k, rfl⟩ : ∃ m, k = m + 1 := ⟨k - 1, by omega⟩
    exact ⟨true, by simp only [pascalinelaw16_few.l0]; rw [if_neg (by omega)], fun _ j h2 h3 => by omega⟩
  | succ d ih =>
    intro k i h0 h1 hd hk
    obtain ⟨k, rfl⟩ : ∃ m, k = m + 1 := ⟨k - 1, by omega⟩
    obtain ⟨b, hb, hall⟩ := ih k (i + 1) (by omega) (by omega) (by omega) (by omega)
    simp only [pascalinelaw16_few.l0]
    rw [if_pos (by omega), if_pos h0]
    by_cases c1 : (rd_T29 l i).f0 < -1000000
    · exact ⟨false, by rw [if_pos c1], fun h => by cases h⟩
    rw [if_neg c1]
    by_cases c2 : (rd_T29 l i).f0 > 1000000
    · exact ⟨false, by rw [if_pos c2], fun h => by cases h⟩
    rw [if_neg c2]
    by_cases c3 : (rd_T29 l i).f1 < -1000000
    · exact ⟨false, by rw [if_pos c3], fun h => by cases h⟩
    rw [if_neg c3]
    by_cases c4 : (rd_T29 l i).f1 > 1000000
    · exact ⟨false, by rw [if_pos c4], fun h => by cases h⟩
    rw [if_neg c4, fq_wrap_up (by omega) (by omega)]
    refine ⟨b, hb, fun h j h2 h3 => ?_⟩
    by_cases hj : j = i
    · subst hj; omega
    · exact hall h j (by omega) h3
theorem fq_few_spec (k : Nat) (hk : 102 ≤ k) (l : List S29) : ∃ b, pascalinelaw16_few.f k l = some b ∧ (b = true → l.length ≤ 100 ∧ fq_Near l) := by
  unfold pascalinelaw16_few.f
  by_cases hl : (l.length : Int) > 100
  · exact ⟨false, by rw [if_pos hl], fun h => by cases h⟩
  · rw [if_neg hl]
    obtain ⟨b, hb, h⟩ := fq_few_loop l (by omega) l.length k 0 (by omega) (by omega) (by omega) (by omega)
    exact ⟨b, hb, fun e => ⟨by omega, fun i h0 h1 => h e i h0 h1⟩⟩
theorem fq_rising_loop (l : List S29) (hl : l.length ≤ 100) (d : Nat) : ∀ (k : Nat) (i : Int), 1 ≤ i → (l.length : Int) - i ≤ d → d < k →
    ∃ b, pascalinelaw16_rising.l0 k l i = some b ∧ (b = true → ∀ j : Int, i ≤ j → j < l.length → (rd_T29 l (j - 1)).f0 < (rd_T29 l j).f0) := by
  induction d with
  | zero =>
    intro k i h0 hd hk
    obtain ⟨k, rfl⟩ : ∃ m, k = m + 1 := ⟨k - 1, by omega⟩
    exact ⟨true, by simp only [pascalinelaw16_rising.l0]; rw [if_neg (by omega)], fun _ j h2 h3 => by omega⟩
  | succ d ih =>
    intro k i h0 hd hk
    obtain ⟨k, rfl⟩ : ∃ m, k = m + 1 := ⟨k - 1, by omega⟩
    by_cases hi : i < l.length
    · obtain ⟨b, hb, hall⟩ := ih k (i + 1) (by omega) (by omega) (by omega)
      simp only [pascalinelaw16_rising.l0]
      rw [fq_wrap_down (by omega) (by omega), if_pos hi, if_pos (by omega), if_pos (by omega), if_pos (by omega)]
      by_cases c1 : (rd_T29 l i).f0 ≤ (rd_T29 l (i - 1)).f0
      · exact ⟨false, by rw [if_pos c1], fun h => by cases h⟩
      rw [if_neg c1, fq_wrap_up (by omega) (by omega)]
      refine ⟨b, hb, fun h j h2 h3 => ?_⟩
      by_cases hj : j = i
      · subst hj; omega
      · exact hall h j (by omega) h3
    · exact ⟨true, by simp only [pascalinelaw16_rising.l0]; rw [if_neg hi], fun _ j h2 h3 => by omega⟩
theorem fq_rising_spec (k : Nat) (hk : 102 ≤ k) (l : List S29) (hl : l.length ≤ 100) : ∃ b, pascalinelaw16_rising.f k l = some b ∧ (b = true → fq_Rise l) := by
  unfold pascalinelaw16_rising.f
  obtain ⟨b, hb, h⟩ := fq_rising_loop l hl l.length k 1 (by omega) (by omega) (by omega)
  exact ⟨b, hb, h⟩
theorem fq_Rise.le {l : List S29} (h : fq_Rise l) (d : Nat) : ∀ i j : Int, 0 ≤ i → j < l.length → j - i = d → (rd_T29 l i).f0 ≤ (rd_T29 l j).f0 := by
  induction d with
  | zero => intro i j _ _ hd; rw [show i = j by omega]; exact Int.le_refl _
  | succ d ih =>
    intro i j h0 h1 hd
    have a := ih i (j - 1) h0 (by omega) (by omega)
    have b := h j (by omega) h1
    omega
theorem fq_Rise.lt {l : List S29} (h : fq_Rise l) {i j : Int} (h0 : 0 ≤ i) (hij : i < j) (h1 : j < l.length) : (rd_T29 l i).f0 < (rd_T29 l j).f0 := by
  have a := fq_Rise.le h (j - 1 - i).toNat i (j - 1) h0 (by omega) (by omega)
  have b := h j (by omega) h1
  omega
theorem fq_bs_spec (p : Nat → Bool) (n : Nat) (mono : ∀ i j, i ≤ j → j < n → p i = true → p j = true) (k : Nat) : ∀ lo hi, hi - lo ≤ k → lo ≤ hi → hi ≤ n → (∀ i, i < lo → p i = false) → (∀ i, hi ≤ i → i < n → p i = true) →
    (∀ i, i < ranges_Find.bs p k lo hi → p i = false) ∧ (∀ i, ranges_Find.bs p k lo hi ≤ i → i < n → p i = true) := by
  induction k with
  | zero =>
    intro lo hi h1 h2 h3 ha hb
    unfold ranges_Find.bs
    exact ⟨ha, fun i h h' => hb i (by omega) h'⟩
  | succ k ih =>
    intro lo hi h1 h2 h3 ha hb
    unfold ranges_Find.bs
    by_cases h : lo < hi
    · rw [if_pos h]
      by_cases hp : p ((lo + hi) / 2) = true
      · rw [if_pos hp]; exact ih lo ((lo + hi) / 2) (by omega) (by omega) (by omega) ha (fun i hi' hn => mono _ i hi' hn hp)
      · rw [if_neg hp]
        refine ih ((lo + hi) / 2 + 1) hi (by omega) (by omega) h3 (fun i hi' => ?_) hb
        cases hq : p i with
        | false => rfl
        | true => exact absurd (mono i _ (by omega) (by omega) hq) hp
    · rw [if_neg h]; exact ⟨ha, fun i hi' hn => hb i (by omega) hn⟩
/-- Where a list breaks off at a word: all fq_ahead begin there or before, none behind. -/
def fq_Break (l : List S29) (a : Int) (m : Nat) : Prop := m ≤ l.length ∧ (∀ i : Nat, i < m → (rd_T29 l i).f0 ≤ a) ∧ (∀ i : Nat, m ≤ i → i < l.length → a < (rd_T29 l i).f0)
theorem fq_find_break {l : List S29} (h : fq_Rise l) (hl : l.length ≤ 1000) (a : Int) : ∃ m, fq_Break l a m ∧ ranges_Find.f l a = some (if m = 0 then -1 else (rd_T29 l ((m : Int) - 1)).f1) := by
  refine ⟨ranges_Find.at_ l a, ?_, by unfold ranges_Find.f; rw [if_pos (by omega)]⟩
  have hm := (ranges_Find.bs_le (ranges_Find.p l a) l.length 0 l.length (by omega)).2
  have hs := fq_bs_spec (ranges_Find.p l a) l.length (fun i j hij hj hp => by
    unfold ranges_Find.p at *
    have e := fq_Rise.le h (j - i) (i : Int) (j : Int) (by omega) (by omega) (by omega)
    have := of_decide_eq_true hp
    exact decide_eq_true (by omega)) l.length 0 l.length (by omega) (by omega) (by omega) (fun i hi => by omega) (fun i h1 h2 => by omega)
  refine ⟨hm, fun i hi => ?_, fun i hi hn => ?_⟩
  · have e := hs.1 i hi
    unfold ranges_Find.p at e
    have := of_decide_eq_false e
    omega
  · exact of_decide_eq_true (hs.2 i hi hn)
theorem fq_break_one {l : List S29} {a : Int} {m m' : Nat} (h : fq_Break l a m) (h' : fq_Break l a m') : m = m' := by
  rcases Nat.lt_trichotomy m m' with c | c | c
  · have x := h.2.2 m (by omega) (by have := h'.1; omega); have y := h'.2.1 m c; omega
  · exact c
  · have x := h'.2.2 m' (by omega) (by have := h.1; omega); have y := h.2.1 m' c; omega

def fq_M (l : List S29) : Nat → List S29
  | 0 => []
  | i + 1 => ranges_Mark.of (fq_M l i) (rd_T29 l (i : Int)).f0 (rd_T29 l (i : Int)).f1
/-- The pad of the last segment that begins at a word or before. -/
def fq_fnd (L : List S29) (a : Int) : Int := L.foldl (fun p s => if s.f0 ≤ a then s.f1 else p) (-1)
theorem fq_fnd_snoc (L : List S29) (s : S29) (a : Int) : fq_fnd (L ++ [s]) a = if s.f0 ≤ a then s.f1 else fq_fnd L a := by
  unfold fq_fnd; rw [List.foldl_append]; rfl
theorem fq_rd_left (L K : List S29) (i : Nat) (h : i < L.length) : rd_T29 (L ++ K) (i : Int) = rd_T29 L (i : Int) := by
  unfold rd_T29; rw [Int.toNat_natCast]; simp [List.getD_eq_getElem?_getD, List.getElem?_append_left h]
theorem fq_rd_last (L : List S29) (s : S29) : rd_T29 (L ++ [s]) (L.length : Int) = s := by
  unfold rd_T29; rw [Int.toNat_natCast]; simp [List.getD_eq_getElem?_getD]
theorem fq_fnd_break (a : Int) (n : Nat) : ∀ (L : List S29) (m : Nat), L.length = n → fq_Break L a m → fq_fnd L a = if m = 0 then -1 else (rd_T29 L ((m : Int) - 1)).f1 := by
  induction n with
  | zero =>
    intro L m hn h
    obtain rfl : L = [] := List.eq_nil_of_length_eq_zero hn
    have := h.1
    simp at this
    subst this
    rfl
  | succ n ih =>
    intro L m hn h
    obtain ⟨K, s, rfl⟩ : ∃ K s, L = K ++ [s] := ⟨L.dropLast, L.getLast (by intro e; subst e; simp at hn), (List.dropLast_concat_getLast _).symm⟩
    have hK : K.length = n := by simpa using hn
    have hm := h.1
    rw [hn] at hm
    rw [fq_fnd_snoc]
    by_cases e : m = n + 1
    · subst e
      have h1 := h.2.1 n (by omega)
      rw [← hK, fq_rd_last] at h1
      rw [if_pos h1, if_neg (by omega), show (((n + 1 : Nat) : Int) - 1) = (K.length : Int) by omega, fq_rd_last]
    · have h1 := h.2.2 n (by omega) (by omega)
      rw [← hK, fq_rd_last] at h1
      rw [if_neg (by omega)]
      have hb : fq_Break K a m := by
        refine ⟨by omega, fun i hi => ?_, fun i hi hl => ?_⟩
        · have := h.2.1 i hi; rwa [fq_rd_left _ _ _ (by omega)] at this
        · have := h.2.2 i hi (by omega); rwa [fq_rd_left _ _ _ hl] at this
      rw [ih K m hK hb]
      by_cases h0 : m = 0
      · rw [if_pos h0, if_pos h0]
      · rw [if_neg h0, if_neg h0, show ((m : Int) - 1) = ((m - 1 : Nat) : Int) by omega, fq_rd_left _ _ _ (by omega)]
theorem fq_rd_take (l : List S29) (i j : Nat) (h : j < i) : rd_T29 (l.take i) (j : Int) = rd_T29 l (j : Int) := by
  unfold rd_T29; rw [Int.toNat_natCast]; simp [List.getD_eq_getElem?_getD, List.getElem?_take, h]
theorem fq_take_snoc (l : List S29) (i : Nat) (h : i < l.length) : l.take (i + 1) = l.take i ++ [rd_T29 l (i : Int)] := by
  rw [List.take_succ_eq_append_getElem h]
  unfold rd_T29; rw [Int.toNat_natCast]; simp [List.getD_eq_getElem?_getD, h]
structure fq_Inv (l : List S29) (i : Nat) : Prop where
  rise : fq_Rise (fq_M l i)
  len : (fq_M l i).length ≤ i
  most : ∀ j : Nat, j < (fq_M l i).length → (rd_T29 (fq_M l i) (j : Int)).f0 ≤ (rd_T29 l ((i : Int) - 1)).f0
  tells : ∀ a, fq_fnd (fq_M l i) a = fq_fnd (l.take i) a
theorem fq_inv (l : List S29) (hr : fq_Rise l) (i : Nat) : i ≤ l.length → fq_Inv l i := by
  induction i with
  | zero => intro _; exact ⟨fun j h0 h1 => absurd h1 (by simp [fq_M]; omega), by simp [fq_M], fun j h => absurd h (by simp [fq_M]), fun a => by simp [fq_M]⟩
  | succ i ih =>
    intro hi
    have I := ih (by omega)
    have hM : fq_M l (i + 1) = ranges_Mark.of (fq_M l i) (rd_T29 l (i : Int)).f0 (rd_T29 l (i : Int)).f1 := rfl
    have hlt : ∀ j : Nat, j < (fq_M l i).length → (rd_T29 (fq_M l i) (j : Int)).f0 < (rd_T29 l (i : Int)).f0 := by
      intro j hj
      have h1 := I.most j hj
      have h2 := I.len
      have h3 := hr (i : Int) (by omega) (by omega)
      omega
    have hs : ((i + 1 : Nat) : Int) - 1 = (i : Int) := by omega
    have hcase : fq_M l (i + 1) = fq_M l i ++ [⟨(rd_T29 l (i : Int)).f0, (rd_T29 l (i : Int)).f1⟩] ∨ (fq_M l (i + 1) = fq_M l i ∧ ∃ m, (fq_M l i).length = m + 1 ∧ (rd_T29 (fq_M l i) (m : Int)).f1 = (rd_T29 l (i : Int)).f1) := by
      rw [hM]
      unfold ranges_Mark.of
      by_cases hz : fq_M l i = []
      · rw [hz]; exact .inl rfl
      · obtain ⟨m, hn⟩ : ∃ m, (fq_M l i).length = m + 1 := ⟨(fq_M l i).length - 1, by have := List.length_pos_iff.mpr hz; omega⟩
        simp only [hn]
        rw [if_neg (by have := hlt m (by omega); omega)]
        by_cases h2 : (rd_T29 (fq_M l i) (m : Int)).f1 = (rd_T29 l (i : Int)).f1
        · rw [if_pos h2]; exact .inr ⟨rfl, m, rfl, h2⟩
        · rw [if_neg h2]; exact .inl rfl
    rcases hcase with e | ⟨e, m, hm, hp⟩
    · rw [show (⟨(rd_T29 l (i : Int)).f0, (rd_T29 l (i : Int)).f1⟩ : S29) = rd_T29 l (i : Int) from rfl] at e
      refine ⟨?_, ?_, ?_, ?_⟩
      · rw [e]
        intro j h0 h1
        rw [List.length_append, List.length_singleton] at h1
        by_cases hj : j = ((fq_M l i).length : Int)
        · subst hj
          rw [fq_rd_last, show (((fq_M l i).length : Int) - 1) = (((fq_M l i).length - 1 : Nat) : Int) by omega, fq_rd_left _ _ _ (by omega)]
          exact hlt _ (by omega)
        · rw [show j = ((j.toNat : Nat) : Int) by omega, fq_rd_left _ _ _ (by omega), show ((j.toNat : Int) - 1) = ((j.toNat - 1 : Nat) : Int) by omega, fq_rd_left _ _ _ (by omega)]
          have := I.rise j h0 (by omega)
          rw [show j = ((j.toNat : Nat) : Int) by omega] at this
          rwa [show ((j.toNat : Int) - 1) = ((j.toNat - 1 : Nat) : Int) by omega] at this
      · rw [e]; have := I.len; simp; omega
      · rw [e, hs]
        intro j hj
        rw [List.length_append, List.length_singleton] at hj
        by_cases h : j = (fq_M l i).length
        · subst h; rw [fq_rd_last]; exact Int.le_refl _
        · rw [fq_rd_left _ _ _ (by omega)]; exact Int.le_of_lt (hlt j (by omega))
      · intro a; rw [e, fq_fnd_snoc, fq_take_snoc l i (by omega), fq_fnd_snoc, I.tells]
    · refine ⟨by rw [e]; exact I.rise, by rw [e]; have := I.len; omega, ?_, ?_⟩
      · rw [e, hs]; intro j hj; exact Int.le_of_lt (hlt j hj)
      · intro a
        rw [e, fq_take_snoc l i (by omega), fq_fnd_snoc]
        by_cases ha : (rd_T29 l (i : Int)).f0 ≤ a
        · rw [if_pos ha, fq_fnd_break a _ (fq_M l i) (m + 1) rfl ⟨by omega, fun j hj => by have := hlt j (by omega); omega, fun j hj hl => by omega⟩, if_neg (by omega)]
          rw [show (((m + 1 : Nat) : Int) - 1) = (m : Int) by omega, hp]
        · rw [if_neg ha]; exact I.tells a
theorem fq_all (l : List S29) (hr : fq_Rise l) (hl : l.length ≤ 100) (a : Int) (m : Nat) (hb : fq_Break l a m) : ranges_Find.f (fq_M l l.length) a = some (if m = 0 then -1 else (rd_T29 l ((m : Int) - 1)).f1) := by
  have I := fq_inv l hr l.length (Nat.le_refl _)
  obtain ⟨m', hb', hf⟩ := fq_find_break I.rise (by have := I.len; omega) a
  rw [hf, ← fq_fnd_break a _ (fq_M l l.length) m' rfl hb', I.tells, List.take_length, fq_fnd_break a _ l m rfl hb]
theorem fq_at_start (l : List S29) (hr : fq_Rise l) (hl : l.length ≤ 100) (j : Nat) (hj : j < l.length) : ranges_Find.f (fq_M l l.length) (rd_T29 l (j : Int)).f0 = some (rd_T29 l (j : Int)).f1 := by
  rw [fq_all l hr hl _ (j + 1) ⟨by omega, fun i hi => ?_, fun i hi hn => fq_Rise.lt hr (by omega) (by omega) (by omega)⟩, if_neg (by omega), show (((j + 1 : Nat) : Int) - 1) = (j : Int) by omega]
  exact fq_Rise.le hr (j - i) (i : Int) (j : Int) (by omega) (by omega) (by omega)
theorem fq_ahead (l : List S29) (hr : fq_Rise l) (hl : l.length ≤ 100) (j : Nat) (hj : j + 1 < l.length) : ranges_Find.f (fq_M l l.length) ((rd_T29 l ((j : Int) + 1)).f0 - 1) = some (rd_T29 l (j : Int)).f1 := by
  rw [fq_all l hr hl _ (j + 1) ⟨by omega, fun i hi => ?_, fun i hi hn => ?_⟩, if_neg (by omega), show (((j + 1 : Nat) : Int) - 1) = (j : Int) by omega]
  · have := fq_Rise.lt hr (i := (i : Int)) (j := (j : Int) + 1) (by omega) (by omega) (by omega); omega
  · have := fq_Rise.le hr (i - (j + 1)) ((j : Int) + 1) (i : Int) (by omega) (by omega) (by omega); omega
theorem fq_first (l : List S29) (hr : fq_Rise l) (hl : l.length ≤ 100) (h0 : 0 < l.length) : ranges_Find.f (fq_M l l.length) ((rd_T29 l 0).f0 - 1) = some (-1) := by
  rw [fq_all l hr hl _ 0 ⟨by omega, fun i hi => by omega, fun i _ hn => ?_⟩, if_pos rfl]
  have := fq_Rise.le hr i 0 (i : Int) (by omega) (by omega) (by omega); omega
def pascalinelaw16_RangesFound.f (k : Nat) (l0 : List S29) : Option Bool := (pascalinelaw16_few.f k l0).bind fun b => if b = true then ((pascalinelaw16_rising.f k l0).bind fun b2 => if b2 = true then (if 200 ≤ k then some true else none) else some true) else some true
theorem pascalinelaw16_RangesFound.finds {w wr : World} {B : Nat} {A8 : Option Addr} {c8 n8 : Nat} {L : List S29} (hR : Kd.R k29 29 wr B (fun _ => True) (.slice A8 n8 c8) L) (hb : Below w.heap.size w wr) {a r : Int} (h : ranges_Find.f L a = some r) :
    Calls Try.prog 14 #[.slice A8 n8 c8, .int .i64 a] wr fun e W => e = .returned (.int .i64 r) ∧ Below wr.heap.size wr W ∧ Below w.heap.size w W ∧ Kd.R k29 29 W B (fun _ => True) (.slice A8 n8 c8) L := by
  obtain rfl := (Kd.R_reads' hR).1
  exact (ranges_Find.calls A8 c8 L a r wr (Kd.R_reads' hR).2.2 (Kd.R_reads' hR).2.1 h).mono fun e W hx => ⟨hx.1, hx.2, below_step hb hx.2, Kd.R_below hR hx.2⟩
set_option maxHeartbeats 8000000 in
set_option maxRecDepth 100000 in
theorem pascalinelaw16_RangesFound.calls (k : Nat) (A0 : Option Addr) (c0 : Nat) (l0 : List S29) (r : Bool) (w : World) (hr0 : Kd.C k29 w A0 l0.length l0) (hc0 : l0.length ≤ c0) (h : pascalinelaw16_RangesFound.f k l0 = some r) :
    Calls Try.prog 4 #[.slice A0 l0.length c0] w fun e w' => e = .returned (.bool r) ∧ Below w.heap.size w w' := by
  unfold pascalinelaw16_RangesFound.f at h
  cases hb : pascalinelaw16_few.f k l0 with
  | none => rw [hb] at h; exact absurd h (by simp)
  | some b =>
    rw [hb] at h
    simp only [Option.bind_some] at h
    have HF := Aside0.mk hb
    have HR0 := Aside0.mk hr0
    have HC0 := Aside0.mk hc0
    clear hr0 hc0
    cases b with
    | false =>
      obtain rfl : r = true := by simpa using h.symm
      clear h hb
      go_enter Try.func4, Try.ntmps4
      go_wp2_with (first
        | (go_at_call 7; ((with_reducible refine (pascalinelaw16_awake.calls true _ rfl).mono ?_)); rintro e w1 ⟨rfl, hb⟩; have HB1 := Aside0.mk hb; clear hb)
        | (go_at_call 8; ((with_reducible refine (pascalinelaw16_few.calls k A0 c0 l0 false _ (Kd.C_below HR0.out HB1.out) HC0.out HF.out).mono ?_)); rintro e w2 ⟨rfl, hb⟩; have HB2 := Aside0.mk (below_step HB1.out hb); clear hb))
      go_ret
      exact ⟨rfl, HB2.out⟩
    | true =>
      rw [if_pos rfl] at h
      cases hb2 : pascalinelaw16_rising.f k l0 with
      | none => rw [hb2] at h; exact absurd h (by simp)
      | some b2 =>
        rw [hb2] at h
        simp only [Option.bind_some] at h
        have HF2 := Aside0.mk hb2
        cases b2 with
        | false =>
          obtain rfl : r = true := by simpa using h.symm
          clear h hb hb2
          go_enter Try.func4, Try.ntmps4
          go_wp2_with (first
            | (go_at_call 7; ((with_reducible refine (pascalinelaw16_awake.calls true _ rfl).mono ?_)); rintro e w1 ⟨rfl, hb⟩; have HB1 := Aside0.mk hb; clear hb)
            | (go_at_call 8; ((with_reducible refine (pascalinelaw16_few.calls k A0 c0 l0 true _ (Kd.C_below HR0.out HB1.out) HC0.out HF.out).mono ?_)); rintro e w2 ⟨rfl, hb⟩; have HB2 := Aside0.mk (below_step HB1.out hb); clear hb)
            | (go_at_call 13; ((with_reducible refine (pascalinelaw16_rising.calls k A0 c0 l0 false _ (Kd.C_below HR0.out HB2.out) HC0.out HF2.out).mono ?_)); rintro e w3 ⟨rfl, hb⟩; have HB3 := Aside0.mk (below_step HB2.out hb.below); clear hb))
          go_ret
          exact ⟨rfl, HB3.out⟩
        | true =>
          rw [if_pos rfl] at h
          by_cases hk : 200 ≤ k
          · rw [if_pos hk] at h
            obtain rfl : r = true := by simpa using h.symm
            obtain ⟨hl, hnear⟩ : l0.length ≤ 100 ∧ fq_Near l0 := by
              obtain ⟨b', e, hx⟩ := fq_few_spec k (by omega) l0
              rw [hb] at e
              injection e with e
              exact hx e.symm
            have hrise : fq_Rise l0 := by
              obtain ⟨b', e, hx⟩ := fq_rising_spec k (by omega) l0 hl
              rw [hb2] at e
              injection e with e
              exact hx e.symm
            have HN := Aside0.mk hnear
            have HI := Aside0.mk hrise
            clear h hb hb2 hk hnear hrise
            go_enter Try.func4, Try.ntmps4
            go_wp2_with (first
              | (go_at_call 7; ((with_reducible refine (pascalinelaw16_awake.calls true _ rfl).mono ?_)); rintro e w1 ⟨rfl, hb⟩; have HB1 := Aside0.mk hb; clear hb)
              | (go_at_call 8; ((with_reducible refine (pascalinelaw16_few.calls k A0 c0 l0 true _ (Kd.C_below HR0.out HB1.out) HC0.out HF.out).mono ?_)); rintro e w2 ⟨rfl, hb⟩; have HB2 := Aside0.mk (below_step HB1.out hb); clear hb HB1)
              | (go_at_call 13; ((with_reducible refine (pascalinelaw16_rising.calls k A0 c0 l0 true _ (Kd.C_below HR0.out HB2.out) HC0.out HF2.out).mono ?_)); rintro e w3 ⟨rfl, hb⟩; have HB3 := Aside0.mk (below_step HB2.out hb.below); clear hb HB2))
            go_loopg [4] (l0.length + 1) (fun kx v4 wr => ∃ (i : Nat), v4 = .int .i64 i ∧ Aside0 (i + kx = l0.length + 1 ∧ i ≤ l0.length) ∧ Aside0 (∃ A c, ranges_Bld w wr w3.heap.size A c (fq_M l0 i)))
            case atStart => exact ⟨0, rfl, ⟨⟨by omega, by omega⟩⟩, ⟨⟨none, 0, ranges_Bld.new w w3 HB3.out⟩⟩⟩
            case round =>
              obtain ⟨i, rfl, I, HA⟩ := hrel
              by_cases hi : i < l0.length
              · obtain ⟨ad, e, hx0, hx1⟩ := at_T29 HR0.out (i : Int) (by omega) (by omega)
                cases e
                rw [Int.toNat_natCast] at hx0 hx1
                obtain ⟨A, c, hbl⟩ := HA.out
                replace hx0 := (hbl.2.2.1.cell (World.block_lt_of_cell? w _ hx0)).trans hx0
                replace hx1 := (hbl.2.2.1.cell (World.block_lt_of_cell? w _ hx1)).trans hx1
                have HBL := Aside0.mk (hbl.below (below_drew (Below.refl _ _)))
                clear hbl
                have hi1 : (i : Int) < (l0.length : Int) := by omega
                have hi0 : (0 : Int) ≤ (i : Int) := by omega
                go_wp2
                go_still_tail 10, (by kernel_rfl)
                change wpList _ _ _ _ _ wr.drew
                generalize wr.drew = wr1 at HBL ⊢
                clear hx0 hx1
                go_wp2_with (go_at_call 9; ((with_reducible refine (ranges_Mark.does _ _ HBL.out (by have := I.out; have := (fq_inv l0 HI.out i (by omega)).len; omega)).mono ?_)); rintro e wm ⟨rfl, A5, c5, hb⟩; have HB5 : Aside0 (∃ A c, ranges_Bld w wm w3.heap.size A c (fq_M l0 (i + 1))) := ⟨⟨A5, c5, hb⟩⟩; clear hb HBL)
                go_roundg (l0.length - i)
                case measure => have := I.out; omega
                case rel => exact ⟨i + 1, by first | rfl | (simp; done), ⟨by have := I.out; omega⟩, HB5⟩
              · obtain rfl : i = l0.length := by have := I.out; omega
                have hi1 : decide ((l0.length : Int) < (l0.length : Int)) = false := decide_eq_false (by omega)
                obtain ⟨A, c, hbl⟩ := HA.out
                have HBL := Aside0.mk hbl
                have hll := (fq_inv l0 HI.out l0.length (Nat.le_refl _)).len
                have HLL := Aside0.mk hll
                clear hbl hll
                go_wp2_with (go_at_call 12; ((with_reducible refine (ranges_List.calls HBL.out (by have := HLL.out; omega)).mono ?_)); rintro e wo ⟨v8, rfl, ho, hb⟩; obtain ⟨A8, c8, rfl⟩ := Kd.R_slice ho; have HO8 := Aside0.mk (Kd.R_lower ho HBL.out.2.2.1.size); have HB8 := Aside0.mk (below_step HBL.out.2.2.1 hb); clear hb ho HBL HA)
                generalize (fq_M l0 l0.length).length = n8 at HO8 ⊢
                clear hi1 I
                go_loopg [6] (l0.length + 1) (fun kx v6 wr => ∃ (j : Nat), v6 = .int .i64 j ∧ Aside0 (j + kx = l0.length + 1 ∧ j ≤ l0.length) ∧ Aside0 (Below w.heap.size w wr) ∧ Aside0 (Kd.R k29 29 wr w.heap.size (fun _ => True) (.slice A8 n8 c8) (fq_M l0 l0.length)))
                case atStart => exact ⟨0, rfl, ⟨⟨by omega, by omega⟩⟩, HB8, HO8⟩
                case round =>
                  clear HB8 HO8
                  obtain ⟨j, rfl, I, HB, HO⟩ := hrel
                  by_cases hj : j < l0.length
                  · obtain ⟨ad, e, hx0, hx1⟩ := at_T29 HR0.out (j : Int) (by omega) (by omega)
                    cases e
                    rw [Int.toNat_natCast] at hx0 hx1
                    have hx0w := hx0
                    have hx1w := hx1
                    have HX := Aside0.mk (And.intro hx0 hx1)
                    replace hx0 := (HB.out.cell (World.block_lt_of_cell? w _ hx0)).trans hx0
                    replace hx1 := (HB.out.cell (World.block_lt_of_cell? w _ hx1)).trans hx1
                    clear hx0w hx1w
                    have hj1 : (j : Int) < (l0.length : Int) := by omega
                    have hj0 : (0 : Int) ≤ (j : Int) := by omega
                    have HF1 := Aside0.mk (fq_at_start l0 HI.out hl j hj)
                    go_wp2
                    go_region_held3 (fun w' => w'.cell? (ad.add (j * 2)) = some (.int .i64 (rd_T29 l0 (j : Int)).f0) ∧ w'.cell? ⟨(ad.add (j * 2)).block, (ad.add (j * 2)).off + 1, none⟩ = some (.int .i64 (rd_T29 l0 (j : Int)).f1)) (first | exact ⟨hx0, hx1⟩ | exact ⟨hx0f, hx1f⟩)
                      (first | (go_at_call 14; ((with_reducible refine (pascalinelaw16_RangesFound.finds (Kd.R_drew HO.out) (below_drew1 HB.out) HF1.out).mono ?_)); rintro e wf ⟨rfl, hb1, hb2, hr⟩; have hx1f := (hb2.cell (World.block_lt_of_cell? w _ HX.out.2)).trans HX.out.2; have hx0f := (hb2.cell (World.block_lt_of_cell? w _ HX.out.1)).trans HX.out.1; have HB2 := Aside0.mk hb2; have HO2 := Aside0.mk hr; clear hb1 hb2 hr))
                    clear hx0 hx1 HB HO HF1
                    by_cases hj2 : j + 1 < l0.length
                    · obtain ⟨ad2, e2, hy0, hy1⟩ := at_T29 HR0.out ((j : Int) + 1) (by omega) (by omega)
                      obtain rfl : ad = ad2 := by injection e2
                      have htn : ((j : Int) + 1).toNat = j + 1 := by omega
                      rw [htn] at hy0 hy1
                      have HF2 := Aside0.mk (fq_ahead l0 HI.out hl j hj2)
                      have hnr := (HN.out ((j : Int) + 1) (by omega) (by omega)).1
                      have HY := Aside0.mk hy0
                      replace hy0 := (HB2.out.cell (World.block_lt_of_cell? w _ HY.out)).trans HY.out
                      clear hy1 e2
                      generalize (rd_T29 l0 ((j : Int) + 1)).f0 = y at HF2 hnr hy0 HY
                      have hw1 : IntKind.i64.wrap ((j : Int) + 1) = (j : Int) + 1 := IntWalk.i64_in _ (by omega)
                      have hw2 : IntKind.i64.wrap (y - 1) = y - 1 := IntWalk.i64_in _ (by omega)
                      have hj3 : (j : Int) + 1 < (l0.length : Int) := by omega
                      have hj3b : decide ((j : Int) + 1 < (l0.length : Int)) = true := decide_eq_true hj3
                      have hj4 : 0 ≤ (j : Int) + 1 := by omega
                      have hy1 : -1000000 ≤ y := hnr.1
                      have hy2 : y ≤ 1000000 := hnr.2
                      clear hnr hj2
                      go_wp2
                      go_region_held3 (fun w' => w'.cell? (ad.add ((j + 1) * 2)) = some (.int .i64 y) ∧ w'.cell? ⟨(ad.add (j * 2)).block, (ad.add (j * 2)).off + 1, none⟩ = some (.int .i64 (rd_T29 l0 (j : Int)).f1)) (first | exact ⟨hy0, hx1f⟩ | exact ⟨hy0g, hx1g⟩)
                        (first | (go_at_call 14; ((with_reducible refine (pascalinelaw16_RangesFound.finds (Kd.R_drew HO2.out) (below_drew1 HB2.out) HF2.out).mono ?_)); rintro e wg ⟨rfl, hb1, hb2, hr⟩; have hx1g := (hb2.cell (World.block_lt_of_cell? w _ HX.out.2)).trans HX.out.2; have hy0g := (hb2.cell (World.block_lt_of_cell? w _ HY.out)).trans HY.out; have HB3 := Aside0.mk hb2; have HO3 := Aside0.mk hr; clear hb1 hb2 hr))
                      clear hy0 hx1f hx0f HB2 HO2 HF2
                      go_wp2
                      go_roundg (l0.length - j)
                      case measure => have := I.out; omega
                      case rel => exact ⟨j + 1, by first | rfl | (simp; done), ⟨by have := I.out; omega⟩, HB3, HO3⟩
                    · have hw1 : IntKind.i64.wrap ((j : Int) + 1) = (j : Int) + 1 := IntWalk.i64_in _ (by omega)
                      have hj3b : decide ((j : Int) + 1 < (l0.length : Int)) = false := decide_eq_false (by omega)
                      go_wp2
                      go_region
                      clear hx1f hx0f
                      go_wp2
                      have HB4 := Aside0.mk (below_drew1 HB2.out)
                      have HO4 := Aside0.mk (Kd.R_drew HO2.out)
                      go_roundg (l0.length - j)
                      case measure => have := I.out; omega
                      case rel => exact ⟨j + 1, by first | rfl | (simp; done), ⟨by have := I.out; omega⟩, HB4, HO4⟩
                  · obtain rfl : j = l0.length := by have := I.out; omega
                    have hj1 : decide ((l0.length : Int) < (l0.length : Int)) = false := decide_eq_false (by omega)
                    by_cases h0 : l0.length = 0
                    · have hz : ((l0.length : Int) == 0) = true := beq_iff_eq.mpr (by omega)
                      clear I
                      clear h0
                      go_wp2
                      go_ret
                      exact ⟨rfl, HB.out⟩
                    · have hz : ((l0.length : Int) == 0) = false := beq_eq_false_iff_ne.mpr (by omega)
                      obtain ⟨ad, e, hx0, hx1⟩ := at_T29 HR0.out 0 (by omega) (by omega)
                      cases e
                      have HX := Aside0.mk hx0
                      replace hx0 := (HB.out.cell (World.block_lt_of_cell? w _ HX.out)).trans HX.out
                      have HF3 := Aside0.mk (fq_first l0 HI.out hl (by omega))
                      have hnr := (HN.out 0 (by omega) (by omega)).1
                      have hp : 0 < (l0.length : Int) := by omega
                      have hpn : 0 < l0.length := by omega
                      clear hx1 HX
                      have hx0z : wr.cell? (ad.add 0) = some (.int .i64 (rd_T29 l0 0).f0) := hx0
                      clear hx0
                      have hx0y : wr.cell? ad = some (.int .i64 (rd_T29 l0 0).f0) := by
                        have e : ad.add 0 = ad := by cases ad; simp [Addr.add]
                        rw [← e]; exact hx0z
                      generalize (rd_T29 l0 0).f0 = y at HF3 hnr hx0z hx0y
                      have hy1 : -1000000 ≤ y := hnr.1
                      have hy2 : y ≤ 1000000 := hnr.2
                      have hw2 : IntKind.i64.wrap (y - 1) = y - 1 := IntWalk.i64_in _ (by omega)
                      clear hnr
                      go_wp2_with (go_at_call 14; go_loud (((with_reducible refine (pascalinelaw16_RangesFound.finds HO.out HB.out HF3.out).mono ?_)); rintro e wg ⟨rfl, hb1, hb2, hr⟩; have HB3 := Aside0.mk hb2; clear hb1 hb2 hr))
                      go_ret
                      exact ⟨rfl, HB3.out⟩
          · rw [if_neg hk] at h; exact absurd h (by simp)

end Go.Proofs.Ytemkjnjfblliaaa.P

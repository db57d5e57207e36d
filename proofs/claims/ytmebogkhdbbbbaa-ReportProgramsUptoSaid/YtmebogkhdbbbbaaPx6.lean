-- Written by a program of this session (wip/tools/hp.py) out of the translation.
import Derived.Test.YtmebogkhdbbbbaaPx0
import Derived.Test.YtmebogkhdbbbbaaPx5
namespace Go.Proofs.Ytmebogkhdbbbbaa.P
open Go.RowKit Go.Proofs.YtmebogkhdbbbbaaW.PrintWords Go.Proofs.YtmebogkhdbbbbaaW.PrintLast Go.Proofs.YtmebogkhdbbbbaaW.PrintMore
attribute [local go_sem] max2_int min2_int max_two min_two max_three min_three max_four min_four   -- for this text's walks alone
set_option linter.unusedVariables false
set_option linter.unusedSimpArgs false

/-! ### place_Index_end: function 45 -/
/-- What is known of the lines' starts. -/
structure place_Good (s : ByteArray) (L : List Int) : Prop where
  size : s.size ≤ 1000000
  pos : 1 ≤ L.length
  len : L.length ≤ 1000001
  low : ∀ i : Int, 0 ≤ i → i < L.length → 0 ≤ rd L i ∧ rd L i ≤ s.size
  rise : ∀ i : Int, 0 ≤ i → i + 1 < L.length → rd L i < rd L (i + 1)
theorem place_rd_left (L K : List Int) (i : Int) (h0 : 0 ≤ i) (h : i < L.length) : rd (L ++ K) i = rd L i := by
  unfold rd; simp [List.getD_eq_getElem?_getD, List.getElem?_append_left (show i.toNat < L.length by omega)]
theorem place_rd_last (L : List Int) (x : Int) (i : Int) (h : i = L.length) : rd (L ++ [x]) i = x := by
  subst h; unfold rd; rw [Int.toNat_natCast]; simp [List.getD_eq_getElem?_getD]
theorem place_sts_good (s : ByteArray) (hs : s.size ≤ 1000000) (n : Nat) (hn : n ≤ s.size) : (∀ i : Int, 0 ≤ i → i < (place_sts s n).length → 0 ≤ rd (place_sts s n) i ∧ rd (place_sts s n) i ≤ n) ∧ (∀ i : Int, 0 ≤ i → i + 1 < (place_sts s n).length → rd (place_sts s n) i < rd (place_sts s n) (i + 1)) := by
  induction n with
  | zero =>
    refine ⟨fun i h0 h1 => ?_, fun i h0 h1 => ?_⟩
    · have : i = 0 := by simp [place_sts] at h1; omega
      subst this; show 0 ≤ rd [0] 0 ∧ rd [0] 0 ≤ ((0 : Nat) : Int); decide
    · simp [place_sts] at h1; omega
  | succ n ih =>
    obtain ⟨h1, h2⟩ := ih (by omega)
    unfold place_sts
    by_cases h : bt s (n : Int) = 10
    · rw [if_pos h]
      refine ⟨fun i h0 hi => ?_, fun i h0 hi => ?_⟩
      · rw [List.length_append, List.length_singleton] at hi
        by_cases e : i = (place_sts s n).length
        · rw [place_rd_last _ _ _ e]; omega
        · rw [place_rd_left _ _ _ h0 (by omega)]; have := h1 i h0 (by omega); omega
      · rw [List.length_append, List.length_singleton] at hi
        rw [place_rd_left _ _ _ h0 (by omega)]
        by_cases e : i + 1 = (place_sts s n).length
        · rw [place_rd_last _ _ _ e]; have := h1 i h0 (by omega); omega
        · rw [place_rd_left _ _ _ (by omega) (by omega)]; exact h2 i h0 (by omega)
    · rw [if_neg h]
      exact ⟨fun i h0 hi => by have := h1 i h0 hi; omega, h2⟩
theorem place_good (s : ByteArray) (hs : s.size ≤ 1000000) : place_Good s (place_sts s s.size) := by
  have h := place_sts_len s s.size
  have g := place_sts_good s hs s.size (Nat.le_refl _)
  exact ⟨hs, h.1, by omega, g.1, g.2⟩
/-- Where a line ends. -/
def place_endf (s : ByteArray) (L : List Int) (n : Int) : Int := if n + 1 < (L.length : Int) then rd L (n + 1) - 1 else s.size
set_option maxHeartbeats 1000000 in
set_option maxRecDepth 100000 in
theorem place_end.calls (g : Nat) (s : ByteArray) (L : List Int) (n : Int) (w : World) (hI : place_Is w g s L) (hG : place_Good s L) (h0 : 0 ≤ n) (h1 : n ≤ 1000001) :
    Calls Try.prog 45 #[.pointer (some ⟨g, 0, none⟩), .int .i64 n] w fun e w' => e = .returned (.int .i64 (place_endf s L n)) ∧ Below w.heap.size w w' := by
  obtain ⟨A, c, hg, hlc, hC⟩ := hI
  have hc0 := blk_cell hg 0
  have hc1 := blk_cell hg 1
  simp at hc0 hc1
  unfold place_endf
  by_cases h : n + 1 < (L.length : Int)
  · obtain ⟨ad, e, hx⟩ := Kd.at_int hC (n + 1) (by omega) h
    cases e
    rw [if_pos h]
    have hb := hG.low (n + 1) (by omega) h
    have hs := hG.size
    generalize rd L (n + 1) = y at hx hb ⊢
    have hy0 := hb.1
    have hy1 : y ≤ 1000000 := by omega
    have hp : 0 ≤ n + 1 := by omega
    clear hg hC hb hG
    generalize L.length = k at *
    go_enter Try.func45, Try.ntmps45
    go_wp2
    go_ret
    exact ⟨rfl, Below.refl _ _⟩
  · rw [if_neg h]
    have hn : decide (n + 1 < (L.length : Int)) = false := decide_eq_false h
    clear hg hC hG h
    generalize L.length = k at *
    go_enter Try.func45, Try.ntmps45
    go_wp2
    go_ret
    exact ⟨rfl, Below.refl _ _⟩
theorem place_endf_le (s : ByteArray) (L : List Int) (hG : place_Good s L) (n : Int) (h0 : 0 ≤ n) (h1 : n < L.length) : rd L n ≤ place_endf s L n ∧ place_endf s L n ≤ s.size := by
  unfold place_endf
  by_cases h : n + 1 < (L.length : Int)
  · rw [if_pos h]; have := hG.rise n h0 h; have := hG.low (n + 1) (by omega) h; omega
  · rw [if_neg h]; have := hG.low n h0 h1; omega

end Go.Proofs.Ytmebogkhdbbbbaa.P

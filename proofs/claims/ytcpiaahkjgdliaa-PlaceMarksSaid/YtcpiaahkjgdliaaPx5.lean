-- Written by a program of this session (wip/tools/hp.py) out of the translation.
import Derived.Test.YtcpiaahkjgdliaaPx0
import Derived.Test.YtcpiaahkjgdliaaPx1
import Derived.Test.YtcpiaahkjgdliaaPx2
import Derived.Test.YtcpiaahkjgdliaaPx3
import Derived.Test.YtcpiaahkjgdliaaPx4
namespace Go.Proofs.Ytcpiaahkjgdliaa.P
open Go.RowKit Go.Proofs.YtcpiaahkjgdliaaW.PrintWords Go.Proofs.YtcpiaahkjgdliaaW.PrintLast Go.Proofs.YtcpiaahkjgdliaaW.PrintMore
attribute [local go_sem] max2_int min2_int max_two min_two max_three min_three max_four min_four   -- for this text's walks alone
set_option linter.unusedVariables false
set_option linter.unusedSimpArgs false

/-! ### pascalinelaw07_PlaceBack: function 4 -/
theorem place_back.pure (s : ByteArray) (L : List Int) (hG : place_Good s L) (hz : rd L 0 = 0) (i : Nat) (hi : i ≤ s.size) :
    ∃ l c : Int, (l = (place_line s L (i : Int) : Nat) + 1 ∧ c = place_held s (i : Int) - rd L (place_line s L (i : Int) : Nat) + 1) ∧ 1 ≤ l ∧ l ≤ (L.length : Int) ∧ c ≤ 1000001 ∧ place_off s L l c = ((i : Int), 0) := by
  obtain ⟨h1, h2, h3⟩ := place_line_spec s L (i : Int) hG hz
  have hs := hG.size
  have hh : place_held s (i : Int) = i := by unfold place_held; rw [if_neg (by omega), if_neg (by omega)]
  rw [hh] at h2 h3
  refine ⟨_, _, ⟨rfl, rfl⟩, by omega, by omega, ?_, ?_⟩
  · rw [hh]; have := hG.low (place_line s L (i : Int) : Nat) (by omega) (by omega); omega
  · rw [hh]
    have he := place_endf_le s L hG (place_line s L (i : Int) : Nat) (by omega) (by omega)
    have hlow := hG.low (place_line s L (i : Int) : Nat) (by omega) (by omega)
    unfold place_off
    rw [show (((place_line s L (i : Int) : Nat) : Int) + 1 - 1) = ((place_line s L (i : Int) : Nat) : Int) by omega]
    rw [if_neg (by omega), if_neg ?_]
    · congr 1; omega
    · unfold place_endf
      by_cases h : ((place_line s L (i : Int) : Nat) : Int) + 1 < (L.length : Int)
      · rw [if_pos h]; have := h3 (by omega); rw [show ((place_line s L (i : Int) + 1 : Nat) : Int) = ((place_line s L (i : Int) : Nat) : Int) + 1 by omega] at this; omega
      · rw [if_neg h]; omega
theorem place_back.both (s : ByteArray) (L : List Int) (g : Nat) (hG : place_Good s L) (hz : rd L 0 = 0) (i : Nat) (hi : i ≤ s.size) :
    ∃ l c : Int, (1 ≤ l ∧ l ≤ (L.length : Int)) ∧ (∀ w, place_Is w g s L → Calls Try.prog 9 #[.pointer (some ⟨g, 0, none⟩), .int .i64 i] w fun e w' => e = .returned (.tuple #[.int .i64 l, .int .i64 c]) ∧ Below w.heap.size w w') ∧
      (∀ w, place_Is w g s L → Calls Try.prog 11 #[.pointer (some ⟨g, 0, none⟩), .int .i64 l, .int .i64 c] w fun e w' => e = .returned (.tuple #[.int .i64 i, .int .i64 0]) ∧ Below w.heap.size w w') := by
  obtain ⟨l, c, ⟨h1, h2⟩, h3, h4, h5, h6⟩ := place_back.pure s L hG hz i hi
  refine ⟨l, c, ⟨h3, h4⟩, fun w hI => ?_, fun w hI => ?_⟩
  · have h := place_At.calls g s L (i : Int) w hI hG hz
    rw [← h1, ← h2] at h
    exact h
  · have h := place_Offset.calls g s L l c w hI hG (by omega)
    rw [h6] at h
    exact h
def pascalinelaw07_PlaceBack.f (a0 : ByteArray) : Option Bool := some true
set_option maxHeartbeats 2000000 in
set_option maxRecDepth 100000 in
theorem pascalinelaw07_PlaceBack.calls (s : ByteArray) (r : Bool) (w : World) (h : pascalinelaw07_PlaceBack.f s = some r) : Calls Try.prog 4 #[.string s] w fun e w' => e = .returned (.bool r) ∧ Below w.heap.size w w' := by
  obtain rfl : r = true := by injection h with h; exact h.symm
  clear h
  by_cases hs : 1000 < (s.size : Int)
  · go_enter Try.func4, Try.ntmps4
    go_wp2_with (go_at_call 7; ((with_reducible refine (pascalinelaw07_awake.calls true _ rfl).mono ?_)); rintro e w1 ⟨rfl, hb⟩; have HB1 := Aside0.mk hb; clear hb)
    go_ret
    exact ⟨rfl, HB1.out⟩
  · have hs1 : (s.size : Int) ≤ 1000 := by omega
    have hs2 : s.size ≤ 1000 := by omega
    have HG := Aside0.mk (place_good s (by omega))
    have HZ := Aside0.mk (place_sts_zero s s.size)
    have hs3 : decide (1000 < (s.size : Int)) = false := decide_eq_false hs
    clear hs
    generalize hL : place_sts s s.size = L at HG HZ
    have HL := Aside0.mk hL
    clear hL
    go_enter Try.func4, Try.ntmps4
    go_wp2_with (first
      | (go_at_call 7; ((with_reducible refine (pascalinelaw07_awake.calls true _ rfl).mono ?_)); rintro e w1 ⟨rfl, hb⟩; have HB1 := Aside0.mk hb; clear hb)
      | (go_at_call 8; ((with_reducible refine (place_New.calls s _ (by omega)).mono ?_)); rintro e w2 ⟨g, rfl, hI, hb⟩; rw [HL.out] at hI; have HI := Aside0.mk hI; have HB2 := Aside0.mk (below_step HB1.out hb); clear hI hb HB1))
    go_loopg [4] (s.size + 2) (fun kx v4 wr => ∃ i : Nat, v4 = .int .i64 i ∧ Aside0 (i + kx = s.size + 2 ∧ i ≤ s.size + 1) ∧ Aside0 (place_Is wr g s L ∧ Below w.heap.size w wr))
    case atStart => exact ⟨0, rfl, ⟨⟨by omega, by omega⟩⟩, ⟨⟨HI.out, HB2.out⟩⟩⟩
    case round =>
      clear HI HB2
      obtain ⟨i, rfl, I, HW⟩ := hrel
      by_cases hi : i ≤ s.size
      · obtain ⟨l, c, ⟨hl1, hl2⟩, hAt, hOff⟩ := place_back.both s L g HG.out HZ.out i hi
        have HA := Aside0.mk hAt
        have HO := Aside0.mk hOff
        clear hAt hOff
        have hi1 : decide ((i : Int) ≤ (s.size : Int)) = true := decide_eq_true (by omega)
        have hi2 : (i : Int) ≤ 1000 := by omega
        have hl3 : decide (l < 1) = false := decide_eq_false (by omega)
        have hl4 : decide ((L.length : Int) < l) = false := decide_eq_false (by omega)
        clear hl1 hl2
        go_wp2_with (first
          | (go_at_call 9; ((with_reducible refine (HA.out _ HW.out.1).mono ?_)); rintro e w3 ⟨rfl, hb⟩; have HW2 := Aside0.mk (And.intro (HW.out.1.below hb) (below_step HW.out.2 hb)); clear hb HW HA)
          | (go_at_call 11; ((with_reducible refine (HO.out _ HW2.out.1).mono ?_)); rintro e w4 ⟨rfl, hb⟩; have HW3 := Aside0.mk (And.intro (HW2.out.1.below hb) (below_step HW2.out.2 hb)); clear hb HW2 HO)
          | (go_at_call 13; ((with_reducible refine (place_Lines.calls g s L _ HW3.out.1).mono ?_)); rintro e w5 ⟨rfl, hb⟩; have HW4 := Aside0.mk (And.intro (HW3.out.1.below hb) (below_step HW3.out.2 hb)); clear hb HW3))
        go_roundg (s.size + 1 - i)
        case measure => have := I.out; omega
        case rel => exact ⟨i + 1, by first | rfl | (simp; done), ⟨by have := I.out; omega⟩, HW4⟩
      · have hi1 : decide ((i : Int) ≤ (s.size : Int)) = false := decide_eq_false (by omega)
        go_wp2
        go_ret
        exact ⟨rfl, HW.out.2⟩

end Go.Proofs.Ytcpiaahkjgdliaa.P

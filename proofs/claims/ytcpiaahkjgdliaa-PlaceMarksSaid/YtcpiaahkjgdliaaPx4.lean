-- Written by a program of this session (wip/tools/hp.py) out of the translation.
import Derived.Test.YtcpiaahkjgdliaaPx0
import Derived.Test.YtcpiaahkjgdliaaPx1
import Derived.Test.YtcpiaahkjgdliaaPx2
import Derived.Test.YtcpiaahkjgdliaaPx3
namespace Go.Proofs.Ytcpiaahkjgdliaa.P
open Go.RowKit Go.Proofs.YtcpiaahkjgdliaaW.PrintWords Go.Proofs.YtcpiaahkjgdliaaW.PrintLast Go.Proofs.YtcpiaahkjgdliaaW.PrintMore
attribute [local go_sem] max2_int min2_int max_two min_two max_three min_three max_four min_four   -- for this text's walks alone
set_option linter.unusedVariables false
set_option linter.unusedSimpArgs false

/-! ### place_Index_Offset: function 11 -/
def place_off (s : ByteArray) (L : List Int) (line col : Int) : Int × Int :=
  if line < 1 ∨ (L.length : Int) < line ∨ col < 1 then (0, 31) else if place_endf s L (line - 1) - rd L (line - 1) < col - 1 then (0, 31) else (rd L (line - 1) + col - 1, 0)
theorem place_endf_le (s : ByteArray) (L : List Int) (hG : place_Good s L) (n : Int) (h0 : 0 ≤ n) (h1 : n < L.length) : rd L n ≤ place_endf s L n ∧ place_endf s L n ≤ s.size := by
  unfold place_endf
  by_cases h : n + 1 < (L.length : Int)
  · rw [if_pos h]; have := hG.rise n h0 h; have := hG.low (n + 1) (by omega) h; omega
  · rw [if_neg h]; have := hG.low n h0 h1; omega
set_option maxHeartbeats 2000000 in
set_option maxRecDepth 100000 in
theorem place_Offset.calls (g : Nat) (s : ByteArray) (L : List Int) (line col : Int) (w : World) (hI : place_Is w g s L) (hG : place_Good s L) (hcol : col ≤ 9223372036854775807) :
    Calls Try.prog 11 #[.pointer (some ⟨g, 0, none⟩), .int .i64 line, .int .i64 col] w fun e w' => e = .returned (.tuple #[.int .i64 (place_off s L line col).1, .int .i64 (place_off s L line col).2]) ∧ Below w.heap.size w w' := by
  have HI := Aside0.mk hI
  obtain ⟨A, c, hg, hlc, hC⟩ := hI
  have hc1 := blk_cell hg 1
  simp at hc1
  unfold place_off
  by_cases h1 : line < 1 ∨ (L.length : Int) < line ∨ col < 1
  · rw [if_pos h1]
    clear hg hC hG
    rcases h1 with h1 | h1 | h1
    · have b1 : decide (line < 1) = true := decide_eq_true h1
      go_enter Try.func11, Try.ntmps11
      go_wp2
      go_ret2
      exact ⟨rfl, Below.refl _ _⟩
    · have b1 : decide (line < 1) = false := decide_eq_false (by omega)
      have b2 : decide ((L.length : Int) < line) = true := decide_eq_true h1
      go_enter Try.func11, Try.ntmps11
      go_wp2
      go_ret2
      exact ⟨rfl, Below.refl _ _⟩
    · by_cases h2 : line < 1
      · have b1 : decide (line < 1) = true := decide_eq_true h2
        go_enter Try.func11, Try.ntmps11
        go_wp2
        go_ret2
        exact ⟨rfl, Below.refl _ _⟩
      · have b1 : decide (line < 1) = false := decide_eq_false h2
        have b3 : decide (col < 1) = true := decide_eq_true h1
        by_cases h3 : (L.length : Int) < line
        · have b2 : decide ((L.length : Int) < line) = true := decide_eq_true h3
          go_enter Try.func11, Try.ntmps11
          go_wp2
          go_ret2
          exact ⟨rfl, Below.refl _ _⟩
        · have b2 : decide ((L.length : Int) < line) = false := decide_eq_false h3
          go_enter Try.func11, Try.ntmps11
          go_wp2
          go_ret2
          exact ⟨rfl, Below.refl _ _⟩
  · rw [if_neg h1]
    have b1 : decide (line < 1) = false := decide_eq_false (by omega)
    have b2 : decide ((L.length : Int) < line) = false := decide_eq_false (by omega)
    have b3 : decide (col < 1) = false := decide_eq_false (by omega)
    have hl1 : 1 ≤ line := by omega
    have hl2 : line ≤ (L.length : Int) := by omega
    have hl3 := hG.len
    have hc2 : 1 ≤ col := by omega
    have hend := place_endf_le s L hG (line - 1) (by omega) (by omega)
    have hlow := hG.low (line - 1) (by omega) (by omega)
    obtain ⟨ad, e, hx⟩ := Kd.at_int hC (line - 1) (by omega) (by omega)
    cases e
    rw [show (line - 1).toNat = line.toNat - 1 by omega] at hx
    have HEND := Aside0.mk (fun w' (hb : Below w.heap.size w w') => place_end.calls g s L (line - 1) w' (HI.out.below hb) hG (by omega) (by omega))
    have HX := Aside0.mk (show w.cell? ⟨g, 1, none⟩ = some (.slice (some ad) L.length c) ∧ w.cell? (ad.add (line.toNat - 1)) = some (.int .i64 (rd L (line - 1))) from ⟨hc1, hx⟩)
    have hsz := hG.size
    generalize hE : place_endf s L (line - 1) = E at hend ⊢ HEND
    generalize hY : rd L (line - 1) = y at hend hlow hx ⊢ HX
    have hy0 := hlow.1
    have hy1 : y ≤ 1000000 := by omega
    have he1 : y ≤ E := hend.1
    have he2 : E ≤ 1000000 := by omega
    have hi0 : 0 ≤ line - 1 := by omega
    have hi1 : line - 1 < (L.length : Int) := by omega
    have hw1 : IntKind.i64.wrap (line - 1) = line - 1 := IntWalk.i64_in _ (by omega)
    have hw2 : IntKind.i64.wrap (col - 1) = col - 1 := IntWalk.i64_in _ (by omega)
    have hw3 : IntKind.i64.wrap (E - y) = E - y := IntWalk.i64_in _ (by omega)
    clear hE hY hend hlow hg hC hG h1 hsz
    generalize L.length = n at *
    by_cases h2 : E - y < col - 1
    · rw [if_pos h2]
      have b4 : decide (E - y < col - 1) = true := decide_eq_true h2
      go_enter Try.func11, Try.ntmps11
      go_wp2
      go_region_held3 (fun w' => w'.cell? ⟨g, 1, none⟩ = some (.slice (some ad) n c) ∧ w'.cell? (ad.add (line.toNat - 1)) = some (.int .i64 y)) (first | exact ⟨hc1, hx⟩ | exact ⟨hc1e, hxe⟩)
        (first | (go_at_call 19; ((with_reducible refine (HEND.out _ (below_drew (Below.refl _ _))).mono ?_)); rintro e we ⟨rfl, hb⟩; have hB := below_step (below_drew (Below.refl w.heap.size w)) hb; have hc1e := (hB.cell (World.block_lt_of_cell? w _ HX.out.1)).trans HX.out.1; have hxe := (hB.cell (World.block_lt_of_cell? w _ HX.out.2)).trans HX.out.2; have HB := Aside0.mk hB; clear hb hB))
      go_wp2
      go_ret2
      exact ⟨rfl, HB.out⟩
    · rw [if_neg h2]
      have b4 : decide (E - y < col - 1) = false := decide_eq_false h2
      have hw4 : IntKind.i64.wrap (y + col) = y + col := IntWalk.i64_in _ (by omega)
      have hw5 : IntKind.i64.wrap (y + col - 1) = y + col - 1 := IntWalk.i64_in _ (by omega)
      have hcb : col ≤ 2000000 := by omega
      go_enter Try.func11, Try.ntmps11
      go_wp2
      go_region_held3 (fun w' => w'.cell? ⟨g, 1, none⟩ = some (.slice (some ad) n c) ∧ w'.cell? (ad.add (line.toNat - 1)) = some (.int .i64 y)) (first | exact ⟨hc1, hx⟩ | exact ⟨hc1e, hxe⟩)
        (first | (go_at_call 19; ((with_reducible refine (HEND.out _ (below_drew (Below.refl _ _))).mono ?_)); rintro e we ⟨rfl, hb⟩; have hB := below_step (below_drew (Below.refl w.heap.size w)) hb; have hc1e := (hB.cell (World.block_lt_of_cell? w _ HX.out.1)).trans HX.out.1; have hxe := (hB.cell (World.block_lt_of_cell? w _ HX.out.2)).trans HX.out.2; have HB := Aside0.mk hB; clear hb hB))
      go_wp2
      go_ret2
      exact ⟨rfl, HB.out⟩

/-! ### pascalinelaw07_awake: function 7 -/
def place_law.S : ByteArray := ⟨#[97, 98, 10, 99]⟩
theorem place_law.sts : place_sts place_law.S 4 = [0, 3] := by decide +kernel
theorem place_law.good : place_Good place_law.S [0, 3] := by
  have h := place_good place_law.S (by decide)
  rwa [show place_law.S.size = 4 from rfl, place_law.sts] at h
theorem place_law.at3 (g : Nat) (w : World) (hI : place_Is w g place_law.S [0, 3]) :
    Calls Try.prog 9 #[.pointer (some ⟨g, 0, none⟩), .int .i64 3] w fun e w' => e = .returned (.tuple #[.int .i64 2, .int .i64 1]) ∧ Below w.heap.size w w' := by
  have h := place_At.calls g place_law.S [0, 3] 3 w hI place_law.good rfl
  have e1 : ((place_line place_law.S [0, 3] 3 : Nat) : Int) + 1 = 2 := by decide +kernel
  have e2 : place_held place_law.S 3 - rd [0, 3] (place_line place_law.S [0, 3] 3 : Nat) + 1 = 1 := by decide +kernel
  rw [e1, e2] at h
  exact h
theorem place_law.off13 (g : Nat) (w : World) (hI : place_Is w g place_law.S [0, 3]) :
    Calls Try.prog 11 #[.pointer (some ⟨g, 0, none⟩), .int .i64 1, .int .i64 3] w fun e w' => e = .returned (.tuple #[.int .i64 2, .int .i64 0]) ∧ Below w.heap.size w w' := by
  have h := place_Offset.calls g place_law.S [0, 3] 1 3 w hI place_law.good (by omega)
  have e1 : place_off place_law.S [0, 3] 1 3 = (2, 0) := by decide +kernel
  rw [e1] at h
  exact h
theorem place_law.new (w : World) : Calls Try.prog 8 #[.string ⟨#[97, 98, 10, 99]⟩] w fun e w' => ∃ g, e = .returned (.pointer (some ⟨g, 0, none⟩)) ∧ place_Is w' g place_law.S [0, 3] ∧ Below w.heap.size w w' := by
  have h := place_New.calls place_law.S w (by decide)
  rw [show place_law.S.size = 4 from rfl, place_law.sts] at h
  exact h
def pascalinelaw07_awake.f : Option Bool := some true
set_option maxHeartbeats 1000000 in
set_option maxRecDepth 100000 in
theorem pascalinelaw07_awake.calls (r : Bool) (w : World) (h : pascalinelaw07_awake.f = some r) : Calls Try.prog 7 #[] w fun e w' => e = .returned (.bool r) ∧ Below w.heap.size w w' := by
  obtain rfl : r = true := by injection h with h; exact h.symm
  clear h
  go_enter Try.func7, Try.ntmps7
  go_wp2_with (first
    | (go_at_call 8; ((with_reducible refine (place_law.new _).mono ?_)); rintro e w1 ⟨g, rfl, hI, hb⟩; have HI := Aside0.mk hI; have HB := Aside0.mk hb; clear hI hb)
    | (go_at_call 9; ((with_reducible refine (place_law.at3 g _ HI.out).mono ?_)); rintro e w2 ⟨rfl, hb⟩; have HI2 := Aside0.mk (HI.out.below hb); have HB2 := Aside0.mk (below_step HB.out hb); clear hb HI HB)
    | (go_at_call 11; ((with_reducible refine (place_law.off13 g _ HI2.out).mono ?_)); rintro e w3 ⟨rfl, hb⟩; have HI3 := Aside0.mk (HI2.out.below hb); have HB3 := Aside0.mk (below_step HB2.out hb); clear hb HI2 HB2)
    | (go_at_call 13; ((with_reducible refine (place_Lines.calls g place_law.S [0, 3] _ HI3.out).mono ?_)); rintro e w4 ⟨rfl, hb⟩; have HB4 := Aside0.mk (below_step HB3.out hb); clear hb HI3 HB3))
  go_ret
  exact ⟨rfl, HB4.out⟩

end Go.Proofs.Ytcpiaahkjgdliaa.P

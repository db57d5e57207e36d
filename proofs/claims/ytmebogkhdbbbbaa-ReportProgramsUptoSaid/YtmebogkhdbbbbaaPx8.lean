-- Written by a program of this session (wip/tools/hp.py) out of the translation.
import Derived.Test.YtmebogkhdbbbbaaPx0
import Derived.Test.YtmebogkhdbbbbaaPx5
import Derived.Test.YtmebogkhdbbbbaaPx6
namespace Go.Proofs.Ytmebogkhdbbbbaa.P
open Go.RowKit Go.Proofs.YtmebogkhdbbbbaaW.PrintWords Go.Proofs.YtmebogkhdbbbbaaW.PrintLast Go.Proofs.YtmebogkhdbbbbaaW.PrintMore
attribute [local go_sem] max2_int min2_int max_two min_two max_three min_three max_four min_four   -- for this text's walks alone
set_option linter.unusedVariables false
set_option linter.unusedSimpArgs false

/-! ### place_Index_Line: function 37 -/
def place_linef (s : ByteArray) (L : List Int) (n : Int) : ByteArray := if n < 1 ∨ (L.length : Int) < n then ⟨#[]⟩ else s.extract (rd L (n - 1)).toNat (place_endf s L (n - 1)).toNat
set_option maxHeartbeats 2000000 in
set_option maxRecDepth 100000 in
theorem place_Line.calls (g : Nat) (s : ByteArray) (L : List Int) (n : Int) (w : World) (hI : place_Is w g s L) (hG : place_Good s L) :
    Calls Try.prog 37 #[.pointer (some ⟨g, 0, none⟩), .int .i64 n] w fun e w' => e = .returned (.string (place_linef s L n)) ∧ Below w.heap.size w w' := by
  have HI := Aside0.mk hI
  obtain ⟨A, c, hg, hlc, hC⟩ := hI
  have hc0 := blk_cell hg 0
  have hc1 := blk_cell hg 1
  simp at hc0 hc1
  unfold place_linef
  by_cases h1 : n < 1 ∨ (L.length : Int) < n
  · rw [if_pos h1]
    clear hg hC hG
    by_cases h2 : n < 1
    · have b1 : decide (n < 1) = true := decide_eq_true h2
      clear h1
      go_enter Try.func37, Try.ntmps37
      go_wp2
      go_ret
      exact ⟨rfl, Below.refl _ _⟩
    · have b1 : decide (n < 1) = false := decide_eq_false h2
      have b2 : decide ((L.length : Int) < n) = true := decide_eq_true (by omega)
      clear h1
      go_enter Try.func37, Try.ntmps37
      go_wp2
      go_ret
      exact ⟨rfl, Below.refl _ _⟩
  · rw [if_neg h1]
    have b1 : decide (n < 1) = false := decide_eq_false (by omega)
    have b2 : decide ((L.length : Int) < n) = false := decide_eq_false (by omega)
    have hl1 : 1 ≤ n := by omega
    have hl2 : n ≤ (L.length : Int) := by omega
    have hl3 := hG.len
    have hend := place_endf_le s L hG (n - 1) (by omega) (by omega)
    have hlow := hG.low (n - 1) (by omega) (by omega)
    obtain ⟨ad, e, hx⟩ := Kd.at_int hC (n - 1) (by omega) (by omega)
    cases e
    rw [show (n - 1).toNat = n.toNat - 1 by omega] at hx
    have HEND := Aside0.mk (fun w' (hb : Below w.heap.size w w') => place_end.calls g s L (n - 1) w' (HI.out.below hb) hG (by omega) (by omega))
    have HX := Aside0.mk (show w.cell? ⟨g, 0, none⟩ = some (.string s) ∧ w.cell? ⟨g, 1, none⟩ = some (.slice (some ad) L.length c) ∧ w.cell? (ad.add (n.toNat - 1)) = some (.int .i64 (rd L (n - 1))) from ⟨hc0, hc1, hx⟩)
    have hsz := hG.size
    generalize hE : place_endf s L (n - 1) = E at hend ⊢ HEND
    generalize hY : rd L (n - 1) = y at hend hlow hx ⊢ HX
    have hy0 := hlow.1
    have hy1 : y ≤ 1000000 := by omega
    have he1 : y ≤ E := hend.1
    have he2 : E ≤ (s.size : Int) := hend.2
    have he3 : 0 ≤ E := by omega
    have hi0 : 0 ≤ n - 1 := by omega
    have hi1 : n - 1 < (L.length : Int) := by omega
    have hw1 : IntKind.i64.wrap (n - 1) = n - 1 := IntWalk.i64_in _ (by omega)
    clear hE hY hend hlow hg hC hG h1
    generalize L.length = m at *
    go_enter Try.func37, Try.ntmps37
    go_wp2
    go_region_held3 (fun w' => w'.cell? ⟨g, 0, none⟩ = some (.string s) ∧ w'.cell? ⟨g, 1, none⟩ = some (.slice (some ad) m c) ∧ w'.cell? (ad.add (n.toNat - 1)) = some (.int .i64 y)) (first | exact ⟨hc0, hc1, hx⟩ | exact ⟨hc0e, hc1e, hxe⟩)
      (first | (go_at_call 45; ((with_reducible refine (HEND.out _ (below_drew (Below.refl _ _))).mono ?_)); rintro e we ⟨rfl, hb⟩; have hB := below_step (below_drew (Below.refl w.heap.size w)) hb; have hc0e := (hB.cell (World.block_lt_of_cell? w _ HX.out.1)).trans HX.out.1; have hc1e := (hB.cell (World.block_lt_of_cell? w _ HX.out.2.1)).trans HX.out.2.1; have hxe := (hB.cell (World.block_lt_of_cell? w _ HX.out.2.2)).trans HX.out.2.2; have HB := Aside0.mk hB; clear hb hB))
    go_wp2
    go_ret
    exact ⟨rfl, HB.out⟩

end Go.Proofs.Ytmebogkhdbbbbaa.P

/- Printed parts. -/
import Derived.Test.YtfagpgpeiomnpaaPx0
-- Written by a program of this session (wip/tools/hp.py) out of the translation.
namespace Go.Proofs.Ytfagpgpeiomnpaa.P
open Go.RowKit Go.Proofs.YtfagpgpeiomnpaaW.PrintWords Go.Proofs.YtfagpgpeiomnpaaW.PrintLast Go.Proofs.YtfagpgpeiomnpaaW.PrintMore
attribute [local go_sem] max2_int min2_int max_two min_two max_three min_three max_four min_four   -- for this text's walks alone
set_option linter.unusedVariables false
set_option linter.unusedSimpArgs false

/-! ### listing_Target: function 8 -/
def listing_Target.f (a0 : Int) (a1_0 : Int) (a1_1 : Int) (a1_2 : Int) (a1_3 : Int) (a1_4 : Int) : Option (Int × Bool) := if a1_0 = 20 then (some ((((a0 + 4) % 4294967296) + ((wrap64 (4 * a1_4)) % 4294967296)) % 4294967296, true)) else (if a1_0 = 21 then (some ((((a0 + 4) % 4294967296) + ((wrap64 (4 * a1_4)) % 4294967296)) % 4294967296, true)) else (if a1_0 = 22 then (some ((((a0 + 4) % 4294967296) + ((wrap64 (4 * a1_4)) % 4294967296)) % 4294967296, true)) else (if a1_0 = 23 then (some ((((a0 + 4) % 4294967296) + ((wrap64 (4 * a1_4)) % 4294967296)) % 4294967296, true)) else (some (0, false)))))
set_option maxHeartbeats 8000000 in
set_option maxRecDepth 100000 in
theorem listing_Target.calls (a0 : Int) (a1_0 : Int) (a1_1 : Int) (a1_2 : Int) (a1_3 : Int) (a1_4 : Int) (r1 : Int) (r2 : Bool) (w : World) (h : listing_Target.f a0 a1_0 a1_1 a1_2 a1_3 a1_4 = some (r1, r2)) :
  Calls Try.prog 8 #[.int .u32 a0, .agg #[.int .i64 a1_0, .int .i64 a1_1, .int .i64 a1_2, .int .i64 a1_3, .int .i64 a1_4]] w fun e w' => e = .returned (.tuple #[.int .u32 r1, .bool r2]) ∧ Below w.heap.size w w' := by
 have hu24 := Try.underlying24
 have HB := Aside0.mk (Below.refl w.heap.size w)
 have H : (if a1_0 = 20 then (some ((((a0 + 4) % 4294967296) + ((wrap64 (4 * a1_4)) % 4294967296)) % 4294967296, true)) else (if a1_0 = 21 then (some ((((a0 + 4) % 4294967296) + ((wrap64 (4 * a1_4)) % 4294967296)) % 4294967296, true)) else (if a1_0 = 22 then (some ((((a0 + 4) % 4294967296) + ((wrap64 (4 * a1_4)) % 4294967296)) % 4294967296, true)) else (if a1_0 = 23 then (some ((((a0 + 4) % 4294967296) + ((wrap64 (4 * a1_4)) % 4294967296)) % 4294967296, true)) else (some (0, false)))))) = some (r1, r2) := h
 clear h
 by_cases c3 : a1_0 = 20
 ·
  rw [if_pos c3] at H
  have c3b0 : (a1_0 == 20) = true := beq_iff_eq.mpr c3
  have c3b1 : (a1_0 != 20) = false := bne_eq_false_iff_eq.mpr c3
  clear c3
  simp only [Option.some.injEq, Prod.mk.injEq] at H
  obtain ⟨rfl, rfl⟩ := H
  go_enter Try.func8, Try.ntmps8
  go_wp2_with (first | ((with_reducible refine gate_dst (N := 3) rfl ?_); refine box_event ?hg (N := 3) ?hd (cs := #[.int .i64 a1_0, .int .i64 a1_1, .int .i64 a1_2, .int .i64 a1_3, .int .i64 a1_4]) (t := 24) ?hr ?_; (case hd => rfl); (case hg => rfl); (case hr => first | (go_simp; done) | (go_simp; rfl)); intro gb101 hg w4 hbox hb; have n0_ := Aside0.mk (below_step (by repeat (first | (with_reducible first | exact HB.out | apply below_alloc | apply pw_below_drewN | apply below_drew1) | exact HB.out)) hb); have n1_ := Aside0.mk (hbox); have n2_ := Aside0.mk ((by rw [hg]; exact (below_size (by repeat (first | (with_reducible first | exact HB.out | apply below_alloc | apply pw_below_drewN | apply below_drew1) | exact HB.out))) : w.heap.size ≤ gb101)); have n3_ := Aside0.mk ((by rw [hg]; exact (below_size (by repeat (first | (with_reducible first | exact HB.out | apply below_alloc | apply pw_below_drewN | apply below_drew1) | exact HB.out))) : w.heap.size ≤ gb101)); clear HB; have HB := n0_; have BK101 := n1_; have GW101 := n2_; have GE101 := n3_; clear n0_ n1_ n2_ n3_; clear hb hbox hg; have hcz5_0 : w4.cell? ⟨gb101, 0, none⟩ = some (.int .i64 a1_0) := (blk_cell BK101.out 0).trans rfl; have hcz5_1 : w4.cell? ⟨gb101, 1, none⟩ = some (.int .i64 a1_1) := (blk_cell BK101.out 1).trans rfl; have hcz5_2 : w4.cell? ⟨gb101, 2, none⟩ = some (.int .i64 a1_2) := (blk_cell BK101.out 2).trans rfl; have hcz5_3 : w4.cell? ⟨gb101, 3, none⟩ = some (.int .i64 a1_3) := (blk_cell BK101.out 3).trans rfl; have hcz5_4 : w4.cell? ⟨gb101, 4, none⟩ = some (.int .i64 a1_4) := (blk_cell BK101.out 4).trans rfl; have hfz5_0 := blk_frozen BK101.out 0; have hfz5_1 := blk_frozen BK101.out 1; have hfz5_2 := blk_frozen BK101.out 2; have hfz5_3 := blk_frozen BK101.out 3; have hfz5_4 := blk_frozen BK101.out 4))
  go_ret2
  exact ⟨by first | rfl | (simp [errW_none, errW_some] <;> rfl) | (simp [*, errW_none, errW_some] <;> rfl), by repeat (first | (with_reducible first | exact HB.out | apply below_alloc | apply pw_below_drewN | apply below_drew1 | refine below_set ?_ GE101.out) | exact HB.out)⟩
 ·
  rw [if_neg c3] at H
  have c3b0 : (a1_0 == 20) = false := beq_eq_false_iff_ne.mpr c3
  have c3b1 : (a1_0 != 20) = true := bne_iff_ne.mpr c3
  by_cases c6 : a1_0 = 21
  ·
   rw [if_pos c6] at H
   have c6b0 : (a1_0 == 21) = true := beq_iff_eq.mpr c6
   have c6b1 : (a1_0 != 21) = false := bne_eq_false_iff_eq.mpr c6
   clear c6
   simp only [Option.some.injEq, Prod.mk.injEq] at H
   obtain ⟨rfl, rfl⟩ := H
   go_enter Try.func8, Try.ntmps8
   go_wp2_with (first | ((with_reducible refine gate_dst (N := 3) rfl ?_); refine box_event ?hg (N := 3) ?hd (cs := #[.int .i64 a1_0, .int .i64 a1_1, .int .i64 a1_2, .int .i64 a1_3, .int .i64 a1_4]) (t := 24) ?hr ?_; (case hd => rfl); (case hg => rfl); (case hr => first | (go_simp; done) | (go_simp; rfl)); intro gb101 hg w7 hbox hb; have n0_ := Aside0.mk (below_step (by repeat (first | (with_reducible first | exact HB.out | apply below_alloc | apply pw_below_drewN | apply below_drew1) | exact HB.out)) hb); have n1_ := Aside0.mk (hbox); have n2_ := Aside0.mk ((by rw [hg]; exact (below_size (by repeat (first | (with_reducible first | exact HB.out | apply below_alloc | apply pw_below_drewN | apply below_drew1) | exact HB.out))) : w.heap.size ≤ gb101)); have n3_ := Aside0.mk ((by rw [hg]; exact (below_size (by repeat (first | (with_reducible first | exact HB.out | apply below_alloc | apply pw_below_drewN | apply below_drew1) | exact HB.out))) : w.heap.size ≤ gb101)); clear HB; have HB := n0_; have BK101 := n1_; have GW101 := n2_; have GE101 := n3_; clear n0_ n1_ n2_ n3_; clear hb hbox hg; have hcz8_0 : w7.cell? ⟨gb101, 0, none⟩ = some (.int .i64 a1_0) := (blk_cell BK101.out 0).trans rfl; have hcz8_1 : w7.cell? ⟨gb101, 1, none⟩ = some (.int .i64 a1_1) := (blk_cell BK101.out 1).trans rfl; have hcz8_2 : w7.cell? ⟨gb101, 2, none⟩ = some (.int .i64 a1_2) := (blk_cell BK101.out 2).trans rfl; have hcz8_3 : w7.cell? ⟨gb101, 3, none⟩ = some (.int .i64 a1_3) := (blk_cell BK101.out 3).trans rfl; have hcz8_4 : w7.cell? ⟨gb101, 4, none⟩ = some (.int .i64 a1_4) := (blk_cell BK101.out 4).trans rfl; have hfz8_0 := blk_frozen BK101.out 0; have hfz8_1 := blk_frozen BK101.out 1; have hfz8_2 := blk_frozen BK101.out 2; have hfz8_3 := blk_frozen BK101.out 3; have hfz8_4 := blk_frozen BK101.out 4))
   go_ret2
   exact ⟨by first | rfl | (simp [errW_none, errW_some] <;> rfl) | (simp [*, errW_none, errW_some] <;> rfl), by repeat (first | (with_reducible first | exact HB.out | apply below_alloc | apply pw_below_drewN | apply below_drew1 | refine below_set ?_ GE101.out) | exact HB.out)⟩
  ·
   rw [if_neg c6] at H
   have c6b0 : (a1_0 == 21) = false := beq_eq_false_iff_ne.mpr c6
   have c6b1 : (a1_0 != 21) = true := bne_iff_ne.mpr c6
   by_cases c9 : a1_0 = 22
   ·
    rw [if_pos c9] at H
    have c9b0 : (a1_0 == 22) = true := beq_iff_eq.mpr c9
    have c9b1 : (a1_0 != 22) = false := bne_eq_false_iff_eq.mpr c9
    clear c9
    simp only [Option.some.injEq, Prod.mk.injEq] at H
    obtain ⟨rfl, rfl⟩ := H
    go_enter Try.func8, Try.ntmps8
    go_wp2_with (first | ((with_reducible refine gate_dst (N := 3) rfl ?_); refine box_event ?hg (N := 3) ?hd (cs := #[.int .i64 a1_0, .int .i64 a1_1, .int .i64 a1_2, .int .i64 a1_3, .int .i64 a1_4]) (t := 24) ?hr ?_; (case hd => rfl); (case hg => rfl); (case hr => first | (go_simp; done) | (go_simp; rfl)); intro gb101 hg w10 hbox hb; have n0_ := Aside0.mk (below_step (by repeat (first | (with_reducible first | exact HB.out | apply below_alloc | apply pw_below_drewN | apply below_drew1) | exact HB.out)) hb); have n1_ := Aside0.mk (hbox); have n2_ := Aside0.mk ((by rw [hg]; exact (below_size (by repeat (first | (with_reducible first | exact HB.out | apply below_alloc | apply pw_below_drewN | apply below_drew1) | exact HB.out))) : w.heap.size ≤ gb101)); have n3_ := Aside0.mk ((by rw [hg]; exact (below_size (by repeat (first | (with_reducible first | exact HB.out | apply below_alloc | apply pw_below_drewN | apply below_drew1) | exact HB.out))) : w.heap.size ≤ gb101)); clear HB; have HB := n0_; have BK101 := n1_; have GW101 := n2_; have GE101 := n3_; clear n0_ n1_ n2_ n3_; clear hb hbox hg; have hcz11_0 : w10.cell? ⟨gb101, 0, none⟩ = some (.int .i64 a1_0) := (blk_cell BK101.out 0).trans rfl; have hcz11_1 : w10.cell? ⟨gb101, 1, none⟩ = some (.int .i64 a1_1) := (blk_cell BK101.out 1).trans rfl; have hcz11_2 : w10.cell? ⟨gb101, 2, none⟩ = some (.int .i64 a1_2) := (blk_cell BK101.out 2).trans rfl; have hcz11_3 : w10.cell? ⟨gb101, 3, none⟩ = some (.int .i64 a1_3) := (blk_cell BK101.out 3).trans rfl; have hcz11_4 : w10.cell? ⟨gb101, 4, none⟩ = some (.int .i64 a1_4) := (blk_cell BK101.out 4).trans rfl; have hfz11_0 := blk_frozen BK101.out 0; have hfz11_1 := blk_frozen BK101.out 1; have hfz11_2 := blk_frozen BK101.out 2; have hfz11_3 := blk_frozen BK101.out 3; have hfz11_4 := blk_frozen BK101.out 4))
    go_ret2
    exact ⟨by first | rfl | (simp [errW_none, errW_some] <;> rfl) | (simp [*, errW_none, errW_some] <;> rfl), by repeat (first | (with_reducible first | exact HB.out | apply below_alloc | apply pw_below_drewN | apply below_drew1 | refine below_set ?_ GE101.out) | exact HB.out)⟩
   ·
    rw [if_neg c9] at H
    have c9b0 : (a1_0 == 22) = false := beq_eq_false_iff_ne.mpr c9
    have c9b1 : (a1_0 != 22) = true := bne_iff_ne.mpr c9
    by_cases c12 : a1_0 = 23
    ·
     rw [if_pos c12] at H
     have c12b0 : (a1_0 == 23) = true := beq_iff_eq.mpr c12
     have c12b1 : (a1_0 != 23) = false := bne_eq_false_iff_eq.mpr c12
     clear c12
     simp only [Option.some.injEq, Prod.mk.injEq] at H
     obtain ⟨rfl, rfl⟩ := H
     go_enter Try.func8, Try.ntmps8
     go_wp2_with (first | ((with_reducible refine gate_dst (N := 3) rfl ?_); refine box_event ?hg (N := 3) ?hd (cs := #[.int .i64 a1_0, .int .i64 a1_1, .int .i64 a1_2, .int .i64 a1_3, .int .i64 a1_4]) (t := 24) ?hr ?_; (case hd => rfl); (case hg => rfl); (case hr => first | (go_simp; done) | (go_simp; rfl)); intro gb101 hg w13 hbox hb; have n0_ := Aside0.mk (below_step (by repeat (first | (with_reducible first | exact HB.out | apply below_alloc | apply pw_below_drewN | apply below_drew1) | exact HB.out)) hb); have n1_ := Aside0.mk (hbox); have n2_ := Aside0.mk ((by rw [hg]; exact (below_size (by repeat (first | (with_reducible first | exact HB.out | apply below_alloc | apply pw_below_drewN | apply below_drew1) | exact HB.out))) : w.heap.size ≤ gb101)); have n3_ := Aside0.mk ((by rw [hg]; exact (below_size (by repeat (first | (with_reducible first | exact HB.out | apply below_alloc | apply pw_below_drewN | apply below_drew1) | exact HB.out))) : w.heap.size ≤ gb101)); clear HB; have HB := n0_; have BK101 := n1_; have GW101 := n2_; have GE101 := n3_; clear n0_ n1_ n2_ n3_; clear hb hbox hg; have hcz14_0 : w13.cell? ⟨gb101, 0, none⟩ = some (.int .i64 a1_0) := (blk_cell BK101.out 0).trans rfl; have hcz14_1 : w13.cell? ⟨gb101, 1, none⟩ = some (.int .i64 a1_1) := (blk_cell BK101.out 1).trans rfl; have hcz14_2 : w13.cell? ⟨gb101, 2, none⟩ = some (.int .i64 a1_2) := (blk_cell BK101.out 2).trans rfl; have hcz14_3 : w13.cell? ⟨gb101, 3, none⟩ = some (.int .i64 a1_3) := (blk_cell BK101.out 3).trans rfl; have hcz14_4 : w13.cell? ⟨gb101, 4, none⟩ = some (.int .i64 a1_4) := (blk_cell BK101.out 4).trans rfl; have hfz14_0 := blk_frozen BK101.out 0; have hfz14_1 := blk_frozen BK101.out 1; have hfz14_2 := blk_frozen BK101.out 2; have hfz14_3 := blk_frozen BK101.out 3; have hfz14_4 := blk_frozen BK101.out 4))
     go_ret2
     exact ⟨by first | rfl | (simp [errW_none, errW_some] <;> rfl) | (simp [*, errW_none, errW_some] <;> rfl), by repeat (first | (with_reducible first | exact HB.out | apply below_alloc | apply pw_below_drewN | apply below_drew1 | refine below_set ?_ GE101.out) | exact HB.out)⟩
    ·
     rw [if_neg c12] at H
     have c12b0 : (a1_0 == 23) = false := beq_eq_false_iff_ne.mpr c12
     have c12b1 : (a1_0 != 23) = true := bne_iff_ne.mpr c12
     simp only [Option.some.injEq, Prod.mk.injEq] at H
     obtain ⟨rfl, rfl⟩ := H
     go_enter Try.func8, Try.ntmps8
     go_wp2_with (first | ((with_reducible refine gate_dst (N := 3) rfl ?_); refine box_event ?hg (N := 3) ?hd (cs := #[.int .i64 a1_0, .int .i64 a1_1, .int .i64 a1_2, .int .i64 a1_3, .int .i64 a1_4]) (t := 24) ?hr ?_; (case hd => rfl); (case hg => rfl); (case hr => first | (go_simp; done) | (go_simp; rfl)); intro gb101 hg w15 hbox hb; have n0_ := Aside0.mk (below_step (by repeat (first | (with_reducible first | exact HB.out | apply below_alloc | apply pw_below_drewN | apply below_drew1) | exact HB.out)) hb); have n1_ := Aside0.mk (hbox); have n2_ := Aside0.mk ((by rw [hg]; exact (below_size (by repeat (first | (with_reducible first | exact HB.out | apply below_alloc | apply pw_below_drewN | apply below_drew1) | exact HB.out))) : w.heap.size ≤ gb101)); have n3_ := Aside0.mk ((by rw [hg]; exact (below_size (by repeat (first | (with_reducible first | exact HB.out | apply below_alloc | apply pw_below_drewN | apply below_drew1) | exact HB.out))) : w.heap.size ≤ gb101)); clear HB; have HB := n0_; have BK101 := n1_; have GW101 := n2_; have GE101 := n3_; clear n0_ n1_ n2_ n3_; clear hb hbox hg; have hcz16_0 : w15.cell? ⟨gb101, 0, none⟩ = some (.int .i64 a1_0) := (blk_cell BK101.out 0).trans rfl; have hcz16_1 : w15.cell? ⟨gb101, 1, none⟩ = some (.int .i64 a1_1) := (blk_cell BK101.out 1).trans rfl; have hcz16_2 : w15.cell? ⟨gb101, 2, none⟩ = some (.int .i64 a1_2) := (blk_cell BK101.out 2).trans rfl; have hcz16_3 : w15.cell? ⟨gb101, 3, none⟩ = some (.int .i64 a1_3) := (blk_cell BK101.out 3).trans rfl; have hcz16_4 : w15.cell? ⟨gb101, 4, none⟩ = some (.int .i64 a1_4) := (blk_cell BK101.out 4).trans rfl; have hfz16_0 := blk_frozen BK101.out 0; have hfz16_1 := blk_frozen BK101.out 1; have hfz16_2 := blk_frozen BK101.out 2; have hfz16_3 := blk_frozen BK101.out 3; have hfz16_4 := blk_frozen BK101.out 4))
     go_ret2
     exact ⟨by first | rfl | (simp [errW_none, errW_some] <;> rfl) | (simp [*, errW_none, errW_some] <;> rfl), by repeat (first | (with_reducible first | exact HB.out | apply below_alloc | apply pw_below_drewN | apply below_drew1 | refine below_set ?_ GE101.out) | exact HB.out)⟩

end Go.Proofs.Ytfagpgpeiomnpaa.P

-- Written by a program of this session (wip/tools/hp.py) out of the translation.
namespace Go.Proofs.Ytfagpgpeiomnpaa.P
open Go.RowKit Go.Proofs.YtfagpgpeiomnpaaW.PrintWords Go.Proofs.YtfagpgpeiomnpaaW.PrintLast Go.Proofs.YtfagpgpeiomnpaaW.PrintMore
attribute [local go_sem] max2_int min2_int max_two min_two max_three min_three max_four min_four   -- for this text's walks alone
set_option linter.unusedVariables false
set_option linter.unusedSimpArgs false

/-! ### word_digits: function 35 -/
open Go.Proofs.Ytfagpgpeiomnpaa.C
def word_digits.f (n b least : Int) : Option ByteArray :=
 if b = 10 ∨ b = 16 then (if (0 ≤ n ∧ n < 18446744073709551616) ∧ 1 ≤ least ∧ least ≤ 64 then some (strOfNums (digs b 65 n (min 64 (max least 1).toNat))) else none) else none

theorem word_digits.inv {n b least : Int} {r : ByteArray} (h : word_digits.f n b least = some r) : (2 ≤ b ∧ b ≤ 16) ∧ (0 ≤ n ∧ n < 18446744073709551616) ∧ (1 ≤ least ∧ least ≤ 64) ∧ r = strOfNums (digs b 65 n (min 64 (max least 1).toNat)) := by
 unfold word_digits.f at h
 by_cases h1 : b = 10 ∨ b = 16
 ·
  rw [if_pos h1] at h
  by_cases h2 : (0 ≤ n ∧ n < 18446744073709551616) ∧ 1 ≤ least ∧ least ≤ 64
  ·
   rw [if_pos h2] at h
   injection h with h
   exact ⟨by omega, h2.1, h2.2, h.symm⟩
  ·
   rw [if_neg h2] at h; cases h
 ·
  rw [if_neg h1] at h; cases h

def word_digits.Inv (w w' : World) (g : Nat) (b n : Int) (m0 : Nat) (x : Int) (a : Nat) (xs : List Int) : Prop :=
 a ≤ 64 ∧ 0 ≤ x ∧ x < 2 ^ a ∧ xs.length = 64 ∧ w'.heap[g]? = some (.cells (nums .u8 xs).toArray 93 (0, 0)) ∧ digs b (a + 1) x (m0 - (64 - a)) ++ xs.drop a = digs b 65 n m0 ∧ Below w.heap.size w w'

theorem word_digits.Inv.cell {w w' : World} {g : Nat} {b n : Int} {m0 : Nat} {x : Int} {a : Nat} {xs : List Int} (h : word_digits.Inv w w' g b n m0 x a xs) (ha : 1 ≤ a) :
  w'.cell? ⟨g, a - 1, none⟩ = some (.int .u8 (xs.getD (a - 1) 0)) := by
 rw [blk_cell h.2.2.2.2.1]
 have h1 := h.1
 have h2 := h.2.2.2.1
 have h3 : a - 1 < xs.length := by omega
 simp [nums, List.getD_eq_getElem?_getD, h3]
theorem word_digits.Inv.free {w w' : World} {g : Nat} {b n : Int} {m0 : Nat} {x : Int} {a : Nat} {xs : List Int} (h : word_digits.Inv w w' g b n m0 x a xs) :
  w'.frozen? ⟨g, a - 1, none⟩ = false := blk_frozen h.2.2.2.2.1 _
theorem word_digits.Inv.step {w w' : World} {b n : Int} {m0 : Nat} {x x' : Int} {a : Nat} {xs : List Int} {v : Int} (h : word_digits.Inv w w' w.heap.size b n m0 x a xs) (ha : 1 ≤ a) (hb : 2 ≤ b) (hc : 0 < x ∨ 0 < m0 - (64 - a))
  (hv : v = dg (x % b)) (hx : x' = x / b) : word_digits.Inv w (w'.setCell ⟨w.heap.size, a - 1, none⟩ (.int .u8 v)) w.heap.size b n m0 x' (a - 1) (xs.set (a - 1) v) := by
 obtain ⟨h1, h2, h3, h4, h5, h6, h7⟩ := h
 obtain ⟨c, rfl⟩ : ∃ c, a = c + 1 := ⟨a - 1, by omega⟩
 have hd := digs_inv b hb x c h2 h3
 subst hx
 refine ⟨by omega, hd.1, hd.2, by simpa using h4, ?_, ?_, ?_⟩
 ·
  rw [blk_set h5]; congr 2; simp [nums]
 ·
  rw [← h6, digs_succ b (c + 1), if_pos hc, hv]
  have e1 : c + 1 - 1 = c := by omega
  have e2 : m0 - (64 - (c + 1)) - 1 = m0 - (64 - c) := by omega
  rw [e1, e2, List.append_assoc]
  congr 1
  rw [List.drop_set, if_neg (by omega)]
  have h8 : c < xs.length := by omega
  rw [List.drop_eq_getElem_cons h8]
  simp only [Nat.sub_self, List.set_cons_zero]
  rfl
 ·
  exact h7.setCell (Nat.le_refl _) _
theorem word_digits.Inv.final {w w' : World} {g : Nat} {b n : Int} {m0 : Nat} {x : Int} {a : Nat} {xs : List Int} (h : word_digits.Inv w w' g b n m0 x a xs) (hc : ¬ (0 < x ∨ 0 < m0 - (64 - a))) : xs.drop a = digs b 65 n m0 := by
 rw [← h.2.2.2.2.2.1, digs_succ, if_neg hc]; rfl
theorem word_digits.Inv.conv {w w' : World} {g : Nat} {b n : Int} {m0 : Nat} {x : Int} {a : Nat} {xs : List Int} (h : word_digits.Inv w w' g b n m0 x a xs) (hc : ¬ (0 < x ∨ 0 < m0 - (64 - a))) (src e dst : Nat) (hs : Try.prog.underlying src = some (.slice e)) (he : Try.prog.underlying e = some (.int .u8)) (hd : Try.prog.underlying dst = some .string) :
  (convert src dst (.slice (some ⟨g, a, none⟩) (64 - a) (64 - a))).run Try.prog w' = .ok (.string (strOfNums (digs b 65 n m0))) w' := by
 have hl := h.2.2.2.1
 rw [← h.final hc]
 refine run_convert_bytes_arg w' src e hs he g a _ _ (xs.drop a) (by simp [hl]) (fun i hi => ?_) dst hd
 rw [blk_cell h.2.2.2.2.1]
 have h3 : a + i < xs.length := by omega
 simp [nums, List.getD_eq_getElem?_getD, h3]

theorem word_digits.wrap_div (x b : Int) (h0 : 0 ≤ x) (h1 : x < 2 ^ 64) (hb : 2 ≤ b) : IntKind.u64.wrap (x.tdiv b) = x / b := by
 rw [Int.tdiv_eq_ediv_of_nonneg h0]
 have hd := digs_inv b hb x 63 h0 h1
 have : (2:Int)^63 = 9223372036854775808 := by decide
 exact IntWalk.u64_in _ (by omega)

theorem word_digits.cut_arr {P : Program} (t e len : Nat) (kl : IntKind) (ht : P.underlying t = some (.array len e)) (hinfo : (P.info? e).map (fun i => i.size) = some 1) (g a : Nat) (h : a < len) :
  ∀ W : World, (Instr.sliceAt t (.pointer (some ⟨g, 0, none⟩)) (some (.int kl (a : Int))) none none).run P W = .ok (.slice (some ⟨g, a, none⟩) (len - a) (len - a)) W := by
 intro W
 obtain ⟨i, hi, hsz⟩ := Option.map_eq_some_iff.1 hinfo
 have hel : P.elem t = e := by simp [Program.elem, ht]
 have hle : P.arrayLen t = len := by simp [Program.arrayLen, ht]
 have hu : P.underlying t = some (.array (P.arrayLen t) (P.elem t)) := by rw [hel, hle]; exact ht
 rw [run_sliceAt_array_l W t ⟨g, 0, none⟩ hu kl (a : Int) (Int.natCast_nonneg _) (by omega), hel, hle]
 simp [sizeOf, typeInfo, hi, hsz, slicedAt, Result.andThen, add_plain]
 omega

set_option maxHeartbeats 400000 in
set_option maxRecDepth 100000 in
theorem word_digits.calls (n b least : Int) (r : ByteArray) (w : World) (h : word_digits.f n b least = some r) :
  Calls Try.prog 35 #[.int .u64 n, .int .u64 b, .int .i64 least] w fun e w' => e = .returned (.string r) ∧ Below w.heap.size w w' := by
 obtain ⟨⟨hb2, hb16⟩, hn, ⟨hl1, hl64⟩, hr⟩ := word_digits.inv h
 have HR := Aside0.mk hr
 have HN := Aside0.mk hn
 clear hn hr h
 go_enter Try.func35, Try.ntmps35
 go_wp2
 go_loopg [0, 8] 65 (fun kq v0 v8 w' => ∃ (x : Int) (a : Nat) (xs : List Int), v0 = .int .u64 x ∧ v8 = .int .i64 a ∧ Aside0 (kq = a + 1) ∧ Aside0 (word_digits.Inv w w' w.heap.size b n (min 64 (max least 1).toNat) x a xs))
 case atStart =>
  refine ⟨n, 64, List.replicate 64 0, rfl, rfl, ⟨rfl⟩, ⟨by omega, HN.out.1, by have := HN.out.2; omega, rfl, ?_, ?_, ?_⟩⟩
  ·
   rw [blk_new]; rfl
  ·
   simp
  ·
   exact below_alloc (Below.refl _ _) _
 case round =>
  obtain ⟨x, a, xs, rfl, rfl, HK, HI⟩ := hrel
  have ha := HI.out.1
  have hx0 := HI.out.2.1
  by_cases hc : 0 < x ∨ 0 < min 64 (max least 1).toNat - (64 - a)
  ·
   have ha1 : 1 ≤ a := by
    rcases hc with hc | hc
    ·
     have := HI.out.2.2.1
     rcases Nat.eq_zero_or_pos a with h0 | h0
     ·
      subst h0; simp at this; omega
     ·
      exact h0
    ·
     omega
   have hcell := HI.out.cell ha1
   have hfree := HI.out.free
   have hm0 : 0 ≤ x % b := Int.emod_nonneg _ (by omega)
   have hm1 : x % b < b := Int.emod_lt_of_pos _ (by omega)
   have HX : Aside0 (IntKind.u64.wrap (x.tdiv b) = x / b) := ⟨word_digits.wrap_div x b hx0 (Int.lt_of_lt_of_le HI.out.2.2.1 (by exact_mod_cast Nat.pow_le_pow_right (by omega) ha)) hb2⟩
   by_cases hd : x % b < 10
   all_goals
    by_cases hc1 : 0 < x
    ·
     have hc1b : decide (0 < x) = true := decide_eq_true hc1
     have HC := Aside0.mk hc
     clear hc
     go_wp2
     go_roundg a
     case measure => have := HK.out; omega
     case rel => exact ⟨_, a - 1, _, rfl, by congr 1; omega, ⟨by omega⟩, ⟨HI.out.step ha1 hb2 HC.out (by first | exact dg_lo _ hd | exact dg_hi _ hd) (by first | exact HX.out | rfl)⟩⟩
    ·
     have hc1b : decide (0 < x) = false := decide_eq_false hc1
     have h63 : 64 - least < a := by omega
     have HC := Aside0.mk hc
     clear hc
     go_wp2
     go_roundg a
     case measure => have := HK.out; omega
     case rel => exact ⟨_, a - 1, _, rfl, by congr 1; omega, ⟨by omega⟩, ⟨HI.out.step ha1 hb2 HC.out (by first | exact dg_lo _ hd | exact dg_hi _ hd) (by first | exact HX.out | rfl)⟩⟩
  ·
   have hc1 : ¬ 0 < x := by omega
   have hc1b : decide (0 < x) = false := decide_eq_false hc1
   have ha63 : a < 64 := by omega
   have hsl := word_digits.cut_arr (P := Try.prog) 93 5 64 .i64 Try.underlying93 (by kernel_rfl) w.heap.size a ha63
   have hcv := HI.out.conv hc 66 5 9 Try.underlying66 Try.underlying5 Try.underlying9
   have h63 : ¬ 64 - least < a := by omega
   have HC := Aside0.mk hc
   clear hc
   go_wp2
   go_ret
   exact ⟨by rw [HR.out]; rfl, HI.out.2.2.2.2.2.2⟩

end Go.Proofs.Ytfagpgpeiomnpaa.P

-- Written by a program of this session (wip/tools/hp.py) out of the translation.
namespace Go.Proofs.Ytfagpgpeiomnpaa.P
open Go.RowKit Go.Proofs.YtfagpgpeiomnpaaW.PrintWords Go.Proofs.YtfagpgpeiomnpaaW.PrintLast Go.Proofs.YtfagpgpeiomnpaaW.PrintMore
attribute [local go_sem] max2_int min2_int max_two min_two max_three min_three max_four min_four   -- for this text's walks alone
set_option linter.unusedVariables false
set_option linter.unusedSimpArgs false

/-! ### word_Hex: function 19 -/
def word_Hex.f (a0 : Int) : Option (ByteArray) := (word_digits.f (IntKind.u64.wrap (a0)) 16 8).bind fun t102 => (some t102)
set_option maxHeartbeats 8000000 in
set_option maxRecDepth 100000 in
theorem word_Hex.calls (a0 : Int) (r : ByteArray) (w : World) (h : word_Hex.f a0 = some r) :
  Calls Try.prog 19 #[.int .u32 a0] w fun e w' => e = .returned (.string r) ∧ Below w.heap.size w w' := by
 have HB := Aside0.mk (Below.refl w.heap.size w)
 have H : ((word_digits.f (IntKind.u64.wrap (a0)) 16 8).bind fun t102 => (some t102)) = some r := h
 clear h
 replace H := Option.bind_eq_some_iff.mp H
 obtain ⟨t102, A20, H⟩ := H
 replace H : (some t102) = some r := H
 have A2 := Aside0.mk A20
 clear A20
 obtain rfl := Option.some.inj H
 go_enter Try.func19, Try.ntmps19
 go_wp2_with (first | ((with_reducible refine gate_callee (f := 35) rfl ?_); refine goesL_ (some 5) rfl rfl Try.func35 (by kernel_rfl) rfl #[.int .u64 (IntKind.u64.wrap (a0)), .int .u64 16, .int .i64 8] rfl (by (try simp only [List.map_toArray, List.map_cons, List.map_nil]); first | done | rfl | (simp only [List.length_drop, List.length_take]; rfl)) ?_; (with_reducible refine (word_digits.calls (IntKind.u64.wrap (a0)) 16 8 t102 _ A2.out).mono ?_); rintro e w3 ⟨rfl, hb⟩; refine ⟨_, rfl, ?_⟩; have n0_ := Aside0.mk (below_step (by repeat (first | (with_reducible first | exact HB.out | apply below_alloc | apply pw_below_drewN | apply below_drew1) | exact HB.out)) hb); clear HB; have HB := n0_; clear n0_; (try clear hb); (try clear hb2); (try clear hk); (try clear hi)))
 go_ret
 exact ⟨by first | rfl | (simp [errW_none, errW_some] <;> rfl) | (simp [*, errW_none, errW_some] <;> rfl), by repeat (first | (with_reducible first | exact HB.out | apply below_alloc | apply pw_below_drewN | apply below_drew1) | exact HB.out)⟩

end Go.Proofs.Ytfagpgpeiomnpaa.P

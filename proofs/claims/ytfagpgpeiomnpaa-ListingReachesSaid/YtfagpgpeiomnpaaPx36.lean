/- Printed parts. -/
import Derived.Test.YtfagpgpeiomnpaaPx0
import Derived.Test.YtfagpgpeiomnpaaPx1
import Derived.Test.YtfagpgpeiomnpaaPx12
-- Written by a program of this session (wip/tools/hp.py) out of the translation.
namespace Go.Proofs.Ytfagpgpeiomnpaa.P
open Go.RowKit Go.Proofs.YtfagpgpeiomnpaaW.PrintWords Go.Proofs.YtfagpgpeiomnpaaW.PrintLast Go.Proofs.YtfagpgpeiomnpaaW.PrintMore
attribute [local go_sem] max2_int min2_int max_two min_two max_three min_three max_four min_four   -- for this text's walks alone
set_option linter.unusedVariables false
set_option linter.unusedSimpArgs false

/-! ### listing_falls: function 26 -/
def listing_falls.f (a0_0 : Int) (a0_1 : Int) (a0_2 : Int) (a0_3 : Int) (a0_4 : Int) : Option (Bool) := if a0_0 = 1 then (some false) else (if a0_0 = 22 then (some false) else (if a0_0 = 24 then (some false) else (if a0_0 = 28 then (some false) else (if a0_0 = 29 then (some false) else (some true)))))
set_option maxHeartbeats 8000000 in
set_option maxRecDepth 100000 in
theorem listing_falls.calls (a0_0 : Int) (a0_1 : Int) (a0_2 : Int) (a0_3 : Int) (a0_4 : Int) (r : Bool) (w : World) (h : listing_falls.f a0_0 a0_1 a0_2 a0_3 a0_4 = some r) :
  Calls Try.prog 26 #[.agg #[.int .i64 a0_0, .int .i64 a0_1, .int .i64 a0_2, .int .i64 a0_3, .int .i64 a0_4]] w fun e w' => e = .returned (.bool r) ∧ Below w.heap.size w w' := by
 have hu24 := Try.underlying24
 have HB := Aside0.mk (Below.refl w.heap.size w)
 have H : (if a0_0 = 1 then (some false) else (if a0_0 = 22 then (some false) else (if a0_0 = 24 then (some false) else (if a0_0 = 28 then (some false) else (if a0_0 = 29 then (some false) else (some true)))))) = some r := h
 clear h
 by_cases c2 : a0_0 = 1
 ·
  rw [if_pos c2] at H
  have c2b0 : (a0_0 == 1) = true := beq_iff_eq.mpr c2
  have c2b1 : (a0_0 != 1) = false := bne_eq_false_iff_eq.mpr c2
  clear c2
  obtain rfl := Option.some.inj H
  go_enter Try.func26, Try.ntmps26
  go_wp2_with (first | ((with_reducible refine gate_dst (N := 1) rfl ?_); refine box_event ?hg (N := 1) ?hd (cs := #[.int .i64 a0_0, .int .i64 a0_1, .int .i64 a0_2, .int .i64 a0_3, .int .i64 a0_4]) (t := 24) ?hr ?_; (case hd => rfl); (case hg => rfl); (case hr => first | (go_simp; done) | (go_simp; rfl)); intro gb273 hg w3 hbox hb; have n0_ := Aside0.mk (below_step (by repeat (first | (with_reducible first | exact HB.out | apply below_alloc | apply pw_below_drewN | apply below_drew1) | exact HB.out)) hb); have n1_ := Aside0.mk (hbox); have n2_ := Aside0.mk ((by rw [hg]; exact (below_size (by repeat (first | (with_reducible first | exact HB.out | apply below_alloc | apply pw_below_drewN | apply below_drew1) | exact HB.out))) : w.heap.size ≤ gb273)); have n3_ := Aside0.mk ((by rw [hg]; exact (below_size (by repeat (first | (with_reducible first | exact HB.out | apply below_alloc | apply pw_below_drewN | apply below_drew1) | exact HB.out))) : w.heap.size ≤ gb273)); clear HB; have HB := n0_; have BK273 := n1_; have GW273 := n2_; have GE273 := n3_; clear n0_ n1_ n2_ n3_; clear hb hbox hg; have hcz4_0 : w3.cell? ⟨gb273, 0, none⟩ = some (.int .i64 a0_0) := (blk_cell BK273.out 0).trans rfl; have hcz4_1 : w3.cell? ⟨gb273, 1, none⟩ = some (.int .i64 a0_1) := (blk_cell BK273.out 1).trans rfl; have hcz4_2 : w3.cell? ⟨gb273, 2, none⟩ = some (.int .i64 a0_2) := (blk_cell BK273.out 2).trans rfl; have hcz4_3 : w3.cell? ⟨gb273, 3, none⟩ = some (.int .i64 a0_3) := (blk_cell BK273.out 3).trans rfl; have hcz4_4 : w3.cell? ⟨gb273, 4, none⟩ = some (.int .i64 a0_4) := (blk_cell BK273.out 4).trans rfl; have hfz4_0 := blk_frozen BK273.out 0; have hfz4_1 := blk_frozen BK273.out 1; have hfz4_2 := blk_frozen BK273.out 2; have hfz4_3 := blk_frozen BK273.out 3; have hfz4_4 := blk_frozen BK273.out 4))
  go_ret
  exact ⟨by first | rfl | (simp [errW_none, errW_some] <;> rfl) | (simp [*, errW_none, errW_some] <;> rfl), by repeat (first | (with_reducible first | exact HB.out | apply below_alloc | apply pw_below_drewN | apply below_drew1 | refine below_set ?_ GE273.out) | exact HB.out)⟩
 ·
  rw [if_neg c2] at H
  have c2b0 : (a0_0 == 1) = false := beq_eq_false_iff_ne.mpr c2
  have c2b1 : (a0_0 != 1) = true := bne_iff_ne.mpr c2
  by_cases c5 : a0_0 = 22
  ·
   rw [if_pos c5] at H
   have c5b0 : (a0_0 == 22) = true := beq_iff_eq.mpr c5
   have c5b1 : (a0_0 != 22) = false := bne_eq_false_iff_eq.mpr c5
   clear c5
   obtain rfl := Option.some.inj H
   go_enter Try.func26, Try.ntmps26
   go_wp2_with (first | ((with_reducible refine gate_dst (N := 1) rfl ?_); refine box_event ?hg (N := 1) ?hd (cs := #[.int .i64 a0_0, .int .i64 a0_1, .int .i64 a0_2, .int .i64 a0_3, .int .i64 a0_4]) (t := 24) ?hr ?_; (case hd => rfl); (case hg => rfl); (case hr => first | (go_simp; done) | (go_simp; rfl)); intro gb273 hg w6 hbox hb; have n0_ := Aside0.mk (below_step (by repeat (first | (with_reducible first | exact HB.out | apply below_alloc | apply pw_below_drewN | apply below_drew1) | exact HB.out)) hb); have n1_ := Aside0.mk (hbox); have n2_ := Aside0.mk ((by rw [hg]; exact (below_size (by repeat (first | (with_reducible first | exact HB.out | apply below_alloc | apply pw_below_drewN | apply below_drew1) | exact HB.out))) : w.heap.size ≤ gb273)); have n3_ := Aside0.mk ((by rw [hg]; exact (below_size (by repeat (first | (with_reducible first | exact HB.out | apply below_alloc | apply pw_below_drewN | apply below_drew1) | exact HB.out))) : w.heap.size ≤ gb273)); clear HB; have HB := n0_; have BK273 := n1_; have GW273 := n2_; have GE273 := n3_; clear n0_ n1_ n2_ n3_; clear hb hbox hg; have hcz7_0 : w6.cell? ⟨gb273, 0, none⟩ = some (.int .i64 a0_0) := (blk_cell BK273.out 0).trans rfl; have hcz7_1 : w6.cell? ⟨gb273, 1, none⟩ = some (.int .i64 a0_1) := (blk_cell BK273.out 1).trans rfl; have hcz7_2 : w6.cell? ⟨gb273, 2, none⟩ = some (.int .i64 a0_2) := (blk_cell BK273.out 2).trans rfl; have hcz7_3 : w6.cell? ⟨gb273, 3, none⟩ = some (.int .i64 a0_3) := (blk_cell BK273.out 3).trans rfl; have hcz7_4 : w6.cell? ⟨gb273, 4, none⟩ = some (.int .i64 a0_4) := (blk_cell BK273.out 4).trans rfl; have hfz7_0 := blk_frozen BK273.out 0; have hfz7_1 := blk_frozen BK273.out 1; have hfz7_2 := blk_frozen BK273.out 2; have hfz7_3 := blk_frozen BK273.out 3; have hfz7_4 := blk_frozen BK273.out 4))
   go_ret
   exact ⟨by first | rfl | (simp [errW_none, errW_some] <;> rfl) | (simp [*, errW_none, errW_some] <;> rfl), by repeat (first | (with_reducible first | exact HB.out | apply below_alloc | apply pw_below_drewN | apply below_drew1 | refine below_set ?_ GE273.out) | exact HB.out)⟩
  ·
   rw [if_neg c5] at H
   have c5b0 : (a0_0 == 22) = false := beq_eq_false_iff_ne.mpr c5
   have c5b1 : (a0_0 != 22) = true := bne_iff_ne.mpr c5
   by_cases c8 : a0_0 = 24
   ·
    rw [if_pos c8] at H
    have c8b0 : (a0_0 == 24) = true := beq_iff_eq.mpr c8
    have c8b1 : (a0_0 != 24) = false := bne_eq_false_iff_eq.mpr c8
    clear c8
    obtain rfl := Option.some.inj H
    go_enter Try.func26, Try.ntmps26
    go_wp2_with (first | ((with_reducible refine gate_dst (N := 1) rfl ?_); refine box_event ?hg (N := 1) ?hd (cs := #[.int .i64 a0_0, .int .i64 a0_1, .int .i64 a0_2, .int .i64 a0_3, .int .i64 a0_4]) (t := 24) ?hr ?_; (case hd => rfl); (case hg => rfl); (case hr => first | (go_simp; done) | (go_simp; rfl)); intro gb273 hg w9 hbox hb; have n0_ := Aside0.mk (below_step (by repeat (first | (with_reducible first | exact HB.out | apply below_alloc | apply pw_below_drewN | apply below_drew1) | exact HB.out)) hb); have n1_ := Aside0.mk (hbox); have n2_ := Aside0.mk ((by rw [hg]; exact (below_size (by repeat (first | (with_reducible first | exact HB.out | apply below_alloc | apply pw_below_drewN | apply below_drew1) | exact HB.out))) : w.heap.size ≤ gb273)); have n3_ := Aside0.mk ((by rw [hg]; exact (below_size (by repeat (first | (with_reducible first | exact HB.out | apply below_alloc | apply pw_below_drewN | apply below_drew1) | exact HB.out))) : w.heap.size ≤ gb273)); clear HB; have HB := n0_; have BK273 := n1_; have GW273 := n2_; have GE273 := n3_; clear n0_ n1_ n2_ n3_; clear hb hbox hg; have hcz10_0 : w9.cell? ⟨gb273, 0, none⟩ = some (.int .i64 a0_0) := (blk_cell BK273.out 0).trans rfl; have hcz10_1 : w9.cell? ⟨gb273, 1, none⟩ = some (.int .i64 a0_1) := (blk_cell BK273.out 1).trans rfl; have hcz10_2 : w9.cell? ⟨gb273, 2, none⟩ = some (.int .i64 a0_2) := (blk_cell BK273.out 2).trans rfl; have hcz10_3 : w9.cell? ⟨gb273, 3, none⟩ = some (.int .i64 a0_3) := (blk_cell BK273.out 3).trans rfl; have hcz10_4 : w9.cell? ⟨gb273, 4, none⟩ = some (.int .i64 a0_4) := (blk_cell BK273.out 4).trans rfl; have hfz10_0 := blk_frozen BK273.out 0; have hfz10_1 := blk_frozen BK273.out 1; have hfz10_2 := blk_frozen BK273.out 2; have hfz10_3 := blk_frozen BK273.out 3; have hfz10_4 := blk_frozen BK273.out 4))
    go_ret
    exact ⟨by first | rfl | (simp [errW_none, errW_some] <;> rfl) | (simp [*, errW_none, errW_some] <;> rfl), by repeat (first | (with_reducible first | exact HB.out | apply below_alloc | apply pw_below_drewN | apply below_drew1 | refine below_set ?_ GE273.out) | exact HB.out)⟩
   ·
    rw [if_neg c8] at H
    have c8b0 : (a0_0 == 24) = false := beq_eq_false_iff_ne.mpr c8
    have c8b1 : (a0_0 != 24) = true := bne_iff_ne.mpr c8
    by_cases c11 : a0_0 = 28
    ·
     rw [if_pos c11] at H
     have c11b0 : (a0_0 == 28) = true := beq_iff_eq.mpr c11
     have c11b1 : (a0_0 != 28) = false := bne_eq_false_iff_eq.mpr c11
     clear c11
     obtain rfl := Option.some.inj H
     go_enter Try.func26, Try.ntmps26
     go_wp2_with (first | ((with_reducible refine gate_dst (N := 1) rfl ?_); refine box_event ?hg (N := 1) ?hd (cs := #[.int .i64 a0_0, .int .i64 a0_1, .int .i64 a0_2, .int .i64 a0_3, .int .i64 a0_4]) (t := 24) ?hr ?_; (case hd => rfl); (case hg => rfl); (case hr => first | (go_simp; done) | (go_simp; rfl)); intro gb273 hg w12 hbox hb; have n0_ := Aside0.mk (below_step (by repeat (first | (with_reducible first | exact HB.out | apply below_alloc | apply pw_below_drewN | apply below_drew1) | exact HB.out)) hb); have n1_ := Aside0.mk (hbox); have n2_ := Aside0.mk ((by rw [hg]; exact (below_size (by repeat (first | (with_reducible first | exact HB.out | apply below_alloc | apply pw_below_drewN | apply below_drew1) | exact HB.out))) : w.heap.size ≤ gb273)); have n3_ := Aside0.mk ((by rw [hg]; exact (below_size (by repeat (first | (with_reducible first | exact HB.out | apply below_alloc | apply pw_below_drewN | apply below_drew1) | exact HB.out))) : w.heap.size ≤ gb273)); clear HB; have HB := n0_; have BK273 := n1_; have GW273 := n2_; have GE273 := n3_; clear n0_ n1_ n2_ n3_; clear hb hbox hg; have hcz13_0 : w12.cell? ⟨gb273, 0, none⟩ = some (.int .i64 a0_0) := (blk_cell BK273.out 0).trans rfl; have hcz13_1 : w12.cell? ⟨gb273, 1, none⟩ = some (.int .i64 a0_1) := (blk_cell BK273.out 1).trans rfl; have hcz13_2 : w12.cell? ⟨gb273, 2, none⟩ = some (.int .i64 a0_2) := (blk_cell BK273.out 2).trans rfl; have hcz13_3 : w12.cell? ⟨gb273, 3, none⟩ = some (.int .i64 a0_3) := (blk_cell BK273.out 3).trans rfl; have hcz13_4 : w12.cell? ⟨gb273, 4, none⟩ = some (.int .i64 a0_4) := (blk_cell BK273.out 4).trans rfl; have hfz13_0 := blk_frozen BK273.out 0; have hfz13_1 := blk_frozen BK273.out 1; have hfz13_2 := blk_frozen BK273.out 2; have hfz13_3 := blk_frozen BK273.out 3; have hfz13_4 := blk_frozen BK273.out 4))
     go_ret
     exact ⟨by first | rfl | (simp [errW_none, errW_some] <;> rfl) | (simp [*, errW_none, errW_some] <;> rfl), by repeat (first | (with_reducible first | exact HB.out | apply below_alloc | apply pw_below_drewN | apply below_drew1 | refine below_set ?_ GE273.out) | exact HB.out)⟩
    ·
     rw [if_neg c11] at H
     have c11b0 : (a0_0 == 28) = false := beq_eq_false_iff_ne.mpr c11
     have c11b1 : (a0_0 != 28) = true := bne_iff_ne.mpr c11
     by_cases c14 : a0_0 = 29
     ·
      rw [if_pos c14] at H
      have c14b0 : (a0_0 == 29) = true := beq_iff_eq.mpr c14
      have c14b1 : (a0_0 != 29) = false := bne_eq_false_iff_eq.mpr c14
      clear c14
      obtain rfl := Option.some.inj H
      go_enter Try.func26, Try.ntmps26
      go_wp2_with (first | ((with_reducible refine gate_dst (N := 1) rfl ?_); refine box_event ?hg (N := 1) ?hd (cs := #[.int .i64 a0_0, .int .i64 a0_1, .int .i64 a0_2, .int .i64 a0_3, .int .i64 a0_4]) (t := 24) ?hr ?_; (case hd => rfl); (case hg => rfl); (case hr => first | (go_simp; done) | (go_simp; rfl)); intro gb273 hg w15 hbox hb; have n0_ := Aside0.mk (below_step (by repeat (first | (with_reducible first | exact HB.out | apply below_alloc | apply pw_below_drewN | apply below_drew1) | exact HB.out)) hb); have n1_ := Aside0.mk (hbox); have n2_ := Aside0.mk ((by rw [hg]; exact (below_size (by repeat (first | (with_reducible first | exact HB.out | apply below_alloc | apply pw_below_drewN | apply below_drew1) | exact HB.out))) : w.heap.size ≤ gb273)); have n3_ := Aside0.mk ((by rw [hg]; exact (below_size (by repeat (first | (with_reducible first | exact HB.out | apply below_alloc | apply pw_below_drewN | apply below_drew1) | exact HB.out))) : w.heap.size ≤ gb273)); clear HB; have HB := n0_; have BK273 := n1_; have GW273 := n2_; have GE273 := n3_; clear n0_ n1_ n2_ n3_; clear hb hbox hg; have hcz16_0 : w15.cell? ⟨gb273, 0, none⟩ = some (.int .i64 a0_0) := (blk_cell BK273.out 0).trans rfl; have hcz16_1 : w15.cell? ⟨gb273, 1, none⟩ = some (.int .i64 a0_1) := (blk_cell BK273.out 1).trans rfl; have hcz16_2 : w15.cell? ⟨gb273, 2, none⟩ = some (.int .i64 a0_2) := (blk_cell BK273.out 2).trans rfl; have hcz16_3 : w15.cell? ⟨gb273, 3, none⟩ = some (.int .i64 a0_3) := (blk_cell BK273.out 3).trans rfl; have hcz16_4 : w15.cell? ⟨gb273, 4, none⟩ = some (.int .i64 a0_4) := (blk_cell BK273.out 4).trans rfl; have hfz16_0 := blk_frozen BK273.out 0; have hfz16_1 := blk_frozen BK273.out 1; have hfz16_2 := blk_frozen BK273.out 2; have hfz16_3 := blk_frozen BK273.out 3; have hfz16_4 := blk_frozen BK273.out 4))
      go_ret
      exact ⟨by first | rfl | (simp [errW_none, errW_some] <;> rfl) | (simp [*, errW_none, errW_some] <;> rfl), by repeat (first | (with_reducible first | exact HB.out | apply below_alloc | apply pw_below_drewN | apply below_drew1 | refine below_set ?_ GE273.out) | exact HB.out)⟩
     ·
      rw [if_neg c14] at H
      have c14b0 : (a0_0 == 29) = false := beq_eq_false_iff_ne.mpr c14
      have c14b1 : (a0_0 != 29) = true := bne_iff_ne.mpr c14
      obtain rfl := Option.some.inj H
      go_enter Try.func26, Try.ntmps26
      go_wp2_with (first | ((with_reducible refine gate_dst (N := 1) rfl ?_); refine box_event ?hg (N := 1) ?hd (cs := #[.int .i64 a0_0, .int .i64 a0_1, .int .i64 a0_2, .int .i64 a0_3, .int .i64 a0_4]) (t := 24) ?hr ?_; (case hd => rfl); (case hg => rfl); (case hr => first | (go_simp; done) | (go_simp; rfl)); intro gb273 hg w17 hbox hb; have n0_ := Aside0.mk (below_step (by repeat (first | (with_reducible first | exact HB.out | apply below_alloc | apply pw_below_drewN | apply below_drew1) | exact HB.out)) hb); have n1_ := Aside0.mk (hbox); have n2_ := Aside0.mk ((by rw [hg]; exact (below_size (by repeat (first | (with_reducible first | exact HB.out | apply below_alloc | apply pw_below_drewN | apply below_drew1) | exact HB.out))) : w.heap.size ≤ gb273)); have n3_ := Aside0.mk ((by rw [hg]; exact (below_size (by repeat (first | (with_reducible first | exact HB.out | apply below_alloc | apply pw_below_drewN | apply below_drew1) | exact HB.out))) : w.heap.size ≤ gb273)); clear HB; have HB := n0_; have BK273 := n1_; have GW273 := n2_; have GE273 := n3_; clear n0_ n1_ n2_ n3_; clear hb hbox hg; have hcz18_0 : w17.cell? ⟨gb273, 0, none⟩ = some (.int .i64 a0_0) := (blk_cell BK273.out 0).trans rfl; have hcz18_1 : w17.cell? ⟨gb273, 1, none⟩ = some (.int .i64 a0_1) := (blk_cell BK273.out 1).trans rfl; have hcz18_2 : w17.cell? ⟨gb273, 2, none⟩ = some (.int .i64 a0_2) := (blk_cell BK273.out 2).trans rfl; have hcz18_3 : w17.cell? ⟨gb273, 3, none⟩ = some (.int .i64 a0_3) := (blk_cell BK273.out 3).trans rfl; have hcz18_4 : w17.cell? ⟨gb273, 4, none⟩ = some (.int .i64 a0_4) := (blk_cell BK273.out 4).trans rfl; have hfz18_0 := blk_frozen BK273.out 0; have hfz18_1 := blk_frozen BK273.out 1; have hfz18_2 := blk_frozen BK273.out 2; have hfz18_3 := blk_frozen BK273.out 3; have hfz18_4 := blk_frozen BK273.out 4))
      go_ret
      exact ⟨by first | rfl | (simp [errW_none, errW_some] <;> rfl) | (simp [*, errW_none, errW_some] <;> rfl), by repeat (first | (with_reducible first | exact HB.out | apply below_alloc | apply pw_below_drewN | apply below_drew1 | refine below_set ?_ GE273.out) | exact HB.out)⟩

end Go.Proofs.Ytfagpgpeiomnpaa.P

-- Written by a program of this session (wip/tools/hp.py) out of the translation.
namespace Go.Proofs.Ytfagpgpeiomnpaa.P
open Go.RowKit Go.Proofs.YtfagpgpeiomnpaaW.PrintWords Go.Proofs.YtfagpgpeiomnpaaW.PrintLast Go.Proofs.YtfagpgpeiomnpaaW.PrintMore
attribute [local go_sem] max2_int min2_int max_two min_two max_three min_three max_four min_four   -- for this text's walks alone
set_option linter.unusedVariables false
set_option linter.unusedSimpArgs false

/-! ### listing_Reached: function 11 -/
def lr_last (op : List Int) : Int := rd op ((op.length : Int) - 1)
def lr_rest (op : List Int) : List Int := op.take (op.length - 1)
def lr_skip (list : List Int) (seen : List Bool) (x : Int) : Bool := decide (x < 0) || (decide ((list.length : Int) ≤ x) || rdOf false seen x)
/-- To which words one comes from one. -/
def lr_next (k : Nat) (list : List Int) (x : Int) : Option (List Int) :=
 (instr_Decode.f k (rd list x)).bind fun t => if t.2.2.2.2.2 = 0 then ((listing_falls.f t.1 t.2.1 t.2.2.1 t.2.2.2.1 t.2.2.2.2.1).bind fun b => (listing_Target.f 0 t.1 t.2.1 t.2.2.1 t.2.2.2.1 t.2.2.2.2.1).bind fun g => some ((if b = true then [x + 1] else []) ++ (if g.2 = true then [wrap64 (x + 1 + t.2.2.2.2.1)] else []))) else some []
def listing_Reached.l0 (list : List Int) : Nat → List Bool → List Int → Option (List Bool)
 | 0, _, _ => none
 | k + 1, seen, op => if op.length < 17592186044400 then (if op.length = 0 then some seen else (if lr_skip list seen (lr_last op) = true then listing_Reached.l0 list k seen (lr_rest op) else (lr_next k list (lr_last op)).bind fun nx => listing_Reached.l0 list k (seen.set (lr_last op).toNat true) (lr_rest op ++ nx))) else none
def listing_Reached.f (k : Nat) (l0 : List Int) (l1 : List Int) : Option (List Bool) := if l0.length ≤ 1000 ∧ l1.length ≤ 1000 then listing_Reached.l0 l0 k (List.replicate l0.length false) l1 else none
theorem lr_next_mono (list : List Int) (x : Int) (k : Nat) : LeO (lr_next k list x) (lr_next (k + 1) list x) := by
 unfold lr_next
 exact LeO.bind (instr_Decode.mono _ k) (fun _ => LeO.refl _)
theorem listing_Reached.mono_l (list : List Int) : ∀ k seen op, LeO (listing_Reached.l0 list k seen op) (listing_Reached.l0 list (k + 1) seen op)
 | 0, _, _ => fun r h => by simp [listing_Reached.l0] at h
 | k + 1, seen, op => by
  rw [listing_Reached.l0, listing_Reached.l0]
  exact LeO.ite (LeO.ite (LeO.refl _) (LeO.ite (listing_Reached.mono_l list k _ _) (LeO.bind (lr_next_mono list _ k) (fun _ => listing_Reached.mono_l list k _ _)))) (LeO.refl _)
theorem listing_Reached.mono : ∀ a0 a1 k, LeO (listing_Reached.f k a0 a1) (listing_Reached.f (k + 1) a0 a1) := by
 intro a0 a1 k
 unfold listing_Reached.f
 exact LeO.ite (listing_Reached.mono_l a0 k _ _) (LeO.refl _)
theorem lr_far {w wr : World} {gs : Nat} {ad : Addr} {l0 : List Int} {x : Int} {j : Nat} (hB : Below w.heap.size w wr) (hg : w.heap.size ≤ gs) (hx : wr.cell? (ad.add x.toNat) = some (.int .u32 (rd l0 x))) (hC : Kd.C (Kd.int .u32) w (some ad) l0.length l0) (h0 : 0 ≤ x) (h1 : x < (l0.length : Int)) (u : Value) :
  (wr.setCell ⟨gs, j, none⟩ u).cell? (ad.add x.toNat) = some (.int .u32 (rd l0 x)) := by
 obtain ⟨ad', e, hc⟩ := Kd.at_int hC x h0 h1
 cases e
 have hb := World.block_lt_of_cell? w _ hc
 have hne : (ad.add x.toNat).block ≠ gs := by omega
 rw [World.cell?_setCell_other _ _ _ _ (fun e => by first | exact hne (congrArg Addr.block e) | exact hne (congrArg Addr.block e).symm)]
 exact hx
set_option maxHeartbeats 8000000 in
set_option maxRecDepth 100000 in
theorem listing_Reached.calls (k : Nat) (A0 : Option Addr) (c0 : Nat) (l0 : List Int) (A1 : Option Addr) (c1 : Nat) (l1 : List Int) (r : List Bool) (w : World) (hr0 : Kd.C (Kd.int .u32) w A0 l0.length l0) (hc0 : l0.length ≤ c0) (hr1 : Kd.C (Kd.int .i64) w A1 l1.length l1) (hc1 : l1.length ≤ c1) (h : listing_Reached.f k l0 l1 = some r) :
  Calls Try.prog 11 #[.slice A0 l0.length c0, .slice A1 l1.length c1] w fun e w' => ∃ v0_ : Value, e = .returned (v0_) ∧ Kd.R Kd.bool 4 w' w.heap.size (fun _ => True) v0_ r ∧ Below w.heap.size w w' := by
 unfold listing_Reached.f at h
 by_cases hc : l0.length ≤ 1000 ∧ l1.length ≤ 1000
 ·
  rw [if_pos hc] at h
  have HR0 := Aside0.mk hr0
  have HR1 := Aside0.mk hr1
  have HL0 := Aside0.mk hc.1
  have HL1 := Aside0.mk hc.2
  have H := Aside0.mk h
  have hz0 : decide (0 ≤ (l0.length : Int)) = true := decide_eq_true (by omega)
  have hz1 : decide ((l0.length : Int).toNat ≤ 281474976710656) = true := decide_eq_true (by omega)
  clear hr0 hr1 hc h
  go_enter Try.func11, Try.ntmps11
  go_wp2
  go_step3
  go_wp2_with (first
   | ((with_reducible refine gate_dst (N := 14) rfl ?_); refine Kd.R_make Kd.bool _ 4 rfl (N := 14) rfl 32 _ _ rfl (l0.length : Int) rfl rfl Try.underlying32 (.bool false) 1 info4 rfl (by decide) (by omega) false (ok := fun _ => True) (okp := fun _ => True) rfl (fun _ hk => hk) trivial (of_decide_eq_true (by first | (with_reducible assumption) | assumption)) (Nat.le_trans (Nat.mul_le_mul_right _ (of_decide_eq_true (by first | (with_reducible assumption) | assumption) : (l0.length : Int).toNat ≤ 281474976710656)) (by omega)) (Below.refl _ _) (Nat.le_refl _) ?_; intro vD w2 ho hb hg_ hnew_; clear hg_ hnew_; have HOD := Aside0.mk (show Kd.R Kd.bool 4 w2 w.heap.size (fun _ => True) vD (List.replicate l0.length false) from ho); have HB2 := Aside0.mk hb; clear hb ho; obtain ⟨AD, cD, eD⟩ := Kd.R_slice HOD.out; rw [List.length_replicate] at eD; subst eD)
   | ((with_reducible refine gate_dst (N := 15) rfl ?_); refine Kd.R_lit (Kd.int .i64) _ 3 ?hg (N := 15) ?hd (xs := ([] : List Int)) (inner := []) (ok := fun _ => True) (okp := fun _ => True) ?hr ?hp (fun _ hk => hk) trivial (Below.refl _ _) (Nat.le_refl _) (by simp) ?_; (case hd => rfl); (case hg => rfl); (case hr => first | (go_simp; done) | (go_simp; rfl)); (case hp => exact (Reps.none _ _)); intro v15 w3 ho hb hg_ hnew_; clear hg_ hnew_; have HO3 := Aside0.mk (Kd.R_lower ho HB2.out.size); have HB3 := Aside0.mk (below_step HB2.out hb); have HS3 := Aside0.mk (Kd.R_below HOD.out hb); clear hb ho)
   | ((with_reducible refine gate_builtin (b := .append) (xs := #[.tmp 15, .tmp 16]) rfl ?_); at_builtin; refine Kd.R_append_row (Value.int .i64) (0 : Int) (w0 := w) w.heap.size rfl (.tmp 15) (.tmp 16) 31 3 (.int .i64 0) 8 rfl Try.underlying31 info3 rfl (by decide) v15 ([] : List Int) l1 A1 l1.length c1 (fun _ => True) rfl rfl (fun _ _ => trivial) HO3.out (Kd.C_below HR1.out HB3.out) HB3.out HB3.out.size (by have := HL1.out; simp only [List.length_nil]; omega) ?_; intro v17 w4 ho hb hg hat; have HO4 := Aside0.mk (show Kd.R (Kd.int .i64) 3 w4 w.heap.size (fun _ => True) v17 l1 from ho); have HB4 := Aside0.mk hb; have HS4 := Aside0.mk (Kd.R_over' HS3.out (Kd.R_typed HO3.out) (by decide) hg); clear ho hb hg hat))
  go_step3
  go_wp2
  go_loopg [6] k (fun kq v6 wr => ∃ (seen : List Bool) (op : List Int), Aside0 (listing_Reached.l0 l0 kq seen op = some r) ∧ Aside0 (kq ≤ k) ∧ Aside0 (seen.length = l0.length) ∧ Aside0 (Kd.R (Kd.int .i64) 3 wr w.heap.size (fun _ => True) v6 op) ∧ Aside0 (Kd.R Kd.bool 4 wr w.heap.size (fun _ => True) (.slice AD l0.length cD) seen) ∧ Aside0 (Below w.heap.size w wr))
  case atStart => exact ⟨_, _, H, ⟨Nat.le_refl _⟩, ⟨List.length_replicate⟩, HO4, HS4, HB4⟩
  case round =>
   obtain ⟨seen, op, HA, HK, HN, HO, HS, HB⟩ := hrel
   cases gk with
   | zero => exact absurd HA.out (by simp [listing_Reached.l0])
   | succ k1 =>
    have h := HA.out
    rw [listing_Reached.l0] at h
    by_cases hob : op.length < 17592186044400
    ·
     rw [if_pos hob] at h
     by_cases hop : op.length = 0
     ·
      rw [if_pos hop] at h
      injection h with h
      subst h
      obtain ⟨Ao, co, eo⟩ := Kd.R_slice HO.out
      subst eo
      have hb0 : decide ((op.length : Int) > 0) = false := decide_eq_false (by omega)
      have hb1 : decide (0 < (op.length : Int)) = false := decide_eq_false (by omega)
      have hb2 : decide (0 < op.length) = false := decide_eq_false (by omega)
      clear hop hob
      go_wp2
      try rw [Exit.noGoto_ret]
      go_ret
      exact ⟨_, rfl, HS.out, HB.out⟩
     ·
      rw [if_neg hop] at h
      obtain ⟨go, co, eo, _, _, _, _⟩ := Kd.R_form HO.out (by omega)
      subst eo
      have hb0 : decide ((op.length : Int) > 0) = true := decide_eq_true (by omega)
      have hb1 : decide (0 < (op.length : Int)) = true := decide_eq_true (by omega)
      have hb2 : decide (0 < op.length) = true := decide_eq_true (by omega)
      have hm0 : 0 ≤ (op.length : Int) - 1 := by omega
      have hm1 : (op.length : Int) - 1 < (op.length : Int) := by omega
      have hm2 : (op.length : Int) - 1 ≤ (op.length : Int) := by omega
      have hm3 : (op.length : Int) ≤ 17592186044400 := by omega
      have hm4 : 1 ≤ (op.length : Int) := by omega
      have hle : op.length ≤ co := (Kd.R_reads' HO.out).2.1
      have hm5 : (op.length : Int) ≤ (co : Int) := by omega
      have hm6 : op.length - 1 ≤ co := by omega
      obtain ⟨hx0, hf0⟩ := Kd.R_celln (0 : Int) HO.out ((op.length : Int) - 1) hm0 hm1
      have hx1 : wr.cell? ⟨go, ((op.length : Int) - 1).toNat, none⟩ = some (.int .i64 (lr_last op)) := hx0
      have HT := Aside0.mk (show Kd.R (Kd.int .i64) 3 wr w.heap.size (fun _ => True) (.slice (some ⟨go, 0, none⟩) (op.length - 1) co) (lr_rest op) from Kd.R_take HO.out (Nat.sub_le _ _))
      have htn : ((op.length : Int) - 1).toNat = op.length - 1 := by omega
      rw [htn] at hx1
      generalize lr_last op = x at h hx1
      have HRL := Aside0.mk (show (lr_rest op).length = op.length - 1 from by unfold lr_rest; rw [List.length_take]; omega)
      have HOB := Aside0.mk hob
      clear hx0 hf0 hop hob HO
      by_cases hs : lr_skip l0 seen x = true
      ·
       rw [if_pos hs] at h
       have H2 := Aside0.mk h
       clear h
       by_cases x0 : x < 0
       ·
        have q0 : decide (x < 0) = true := decide_eq_true x0
        clear hs x0
        go_wp2
        go_roundg k1
        case measure => have := HK.out; omega
        case rel => exact ⟨seen, lr_rest op, H2, ⟨by have := HK.out; omega⟩, ⟨HN.out⟩, HT, HS, HB⟩
       ·
        by_cases x1 : (l0.length : Int) ≤ x
        ·
         have q0 : decide (x < 0) = false := decide_eq_false x0
         have q1 : decide (x ≥ (l0.length : Int)) = true := decide_eq_true x1
         have q2 : decide ((l0.length : Int) ≤ x) = true := decide_eq_true x1
         clear hs x0 x1
         go_wp2
         go_roundg k1
         case measure => have := HK.out; omega
         case rel => exact ⟨seen, lr_rest op, H2, ⟨by have := HK.out; omega⟩, ⟨HN.out⟩, HT, HS, HB⟩
        ·
         have hsx : rdOf false seen x = true := by
          unfold lr_skip at hs
          rw [decide_eq_false x0, decide_eq_false x1, Bool.false_or, Bool.false_or] at hs
          exact hs
         have hxn : x < (l0.length : Int) := by omega
         have hx00 : 0 ≤ x := by omega
         have q0 : decide (x < 0) = false := decide_eq_false x0
         have q1 : decide (x ≥ (l0.length : Int)) = false := decide_eq_false x1
         have q2 : decide ((l0.length : Int) ≤ x) = false := decide_eq_false x1
         obtain ⟨gs, cs, es, gsb, _, _, _⟩ := Kd.R_form HS.out (by rw [HN.out]; omega)
         rw [HN.out] at es
         injection es with es1 es2 es3
         subst es1
         have HGS := Aside0.mk gsb
         obtain ⟨hy, hyf⟩ := Kd.R_celln false HS.out x hx00 hxn
         clear gsb es2 es3
         rw [hsx] at hy
         clear hs x0 x1 hsx
         go_wp2
         go_roundg k1
         case measure => have := HK.out; omega
         case rel => exact ⟨seen, lr_rest op, H2, ⟨by have := HK.out; omega⟩, ⟨HN.out⟩, HT, HS, HB⟩
      ·
       rw [if_neg hs] at h
       have x0 : ¬ x < 0 := fun e => hs (by unfold lr_skip; rw [decide_eq_true e, Bool.true_or])
       have x1 : ¬ (l0.length : Int) ≤ x := fun e => hs (by unfold lr_skip; rw [decide_eq_true e, Bool.true_or, Bool.or_true])
       have hsx : rdOf false seen x = false := by
        cases e : rdOf false seen x with
        | false => rfl
        | true => exact absurd (by unfold lr_skip; rw [e, Bool.or_true, Bool.or_true]) hs
       obtain ⟨nx, hnx, h⟩ := Option.bind_eq_some_iff.mp h
       unfold lr_next at hnx
       obtain ⟨⟨d1, d2, d3, d4, d5, d6⟩, hd, hnx⟩ := Option.bind_eq_some_iff.mp hnx
       dsimp only at hnx
       have hxn : x < (l0.length : Int) := by omega
       have hx00 : 0 ≤ x := by omega
       have q0 : decide (x < 0) = false := decide_eq_false x0
       have q1 : decide (x ≥ (l0.length : Int)) = false := decide_eq_false x1
       have q2 : decide ((l0.length : Int) ≤ x) = false := decide_eq_false x1
       obtain ⟨gs, cs, es, gsb, _, _, _⟩ := Kd.R_form HS.out (by rw [HN.out]; omega)
       rw [HN.out] at es
       injection es with es1 es2 es3
       subst es1
       have HGS := Aside0.mk gsb
       obtain ⟨hy, hyf⟩ := Kd.R_celln false HS.out x hx00 hxn
       clear gsb es2 es3
       rw [hsx] at hy
       obtain ⟨ad, e, hx2⟩ := Kd.at_int HR0.out x (by omega) (by omega)
       cases e
       replace hx2 := pw_cell_below HB.out hx2
       have HX2 := Aside0.mk hx2
       have HD := Aside0.mk hd
       have HP := Aside0.mk (Kd.R_putg HS.out x true)
       have hx9 : x ≤ 1000 := by have := HL0.out; omega
       clear hs hsx hd hx2
       by_cases z : d6 = 0
       ·
        rw [if_pos z] at hnx
        obtain ⟨b, hb9, hnx⟩ := Option.bind_eq_some_iff.mp hnx
        obtain ⟨⟨g1, g2⟩, hg9, hnx⟩ := Option.bind_eq_some_iff.mp hnx
        injection hnx with hnx
        dsimp only at hnx
        subst hnx
        have HF := Aside0.mk hb9
        have HG := Aside0.mk hg9
        have z1 : (d6 == 0) = true := beq_iff_eq.mpr z
        have z2 : (d6 != 0) = false := bne_eq_false_iff_eq.mpr z
        clear z hb9 hg9
        cases b <;> cases g2
        ·
         have H2 := Aside0.mk (show listing_Reached.l0 l0 k1 (seen.set x.toNat true) (lr_rest op) = some r from by first | (simp only [if_true, if_false, Bool.false_eq_true, List.append_nil, List.nil_append] at h; first | exact h | (rw [List.append_assoc]; exact h)))
         clear h
         go_wp2_with (first
          | ((with_reducible refine gate_store (t := 4) (p := 48) rfl ?_); refine store_event (t := 4) (p := 48) (v := ?vo1) (w1 := (wr.setCell ⟨gs, x.toNat, none⟩ (.bool true))) ?hg ?ho ?hn ?hr ?_; (case ho => rfl); (case hg => rfl); (case hn => rfl); (case hr => first | (go_simp; done) | (go_simp; rfl)); intro w4 hw; have HS4b := Aside0.mk (show Kd.R Kd.bool 4 w4 w.heap.size (fun _ => True) (.slice (some ⟨gs, 0, none⟩) l0.length cD) (seen.set x.toNat true) from (by rw [hw]; exact HP.out.1)); have HG4 := Aside0.mk (show wr.grownBy w4 (some gs) from (by rw [hw]; exact HP.out.2)); have HT4 := Aside0.mk (Kd.R_over' (v := (.slice (some ⟨gs, 0, none⟩) l0.length cD)) HT.out (Kd.R_typed HS.out) (by decide) HG4.out); have HB5 := Aside0.mk ((by rw [hw]; exact below_set HB.out HGS.out : Below w.heap.size w w4)); have hx3 : w4.cell? (ad.add x.toNat) = some (.int .u32 (rd l0 x)) := (by rw [hw]; exact lr_far (j := x.toNat) (gs := gs) HB.out HGS.out HX2.out HR0.out hx00 hxn (.bool true)); clear hw)
          | (go_at_call 20; ((with_reducible refine (instr_Decode.calls k1 (rd l0 x) d1 d2 d3 d4 d5 d6 _ HD.out).mono ?_)); rintro e w5 ⟨rfl, hb⟩; have HB6 := Aside0.mk (below_step HB5.out hb); have HS5 := Aside0.mk (Kd.R_below HS4b.out hb); have HT5 := Aside0.mk (Kd.R_below HT4.out hb); clear hb)
          | (go_at_call 26; ((with_reducible refine (listing_falls.calls d1 d2 d3 d4 d5 false _ HF.out).mono ?_)); rintro e w7 ⟨rfl, hb⟩; have hb7 := below_step (below_alloc (Below.refl w5.heap.size w5) (.cells #[.int .i64 d1, .int .i64 d2, .int .i64 d3, .int .i64 d4, .int .i64 d5] 24)) hb; have HB7 := Aside0.mk (below_step HB6.out hb7); have HS7 := Aside0.mk (Kd.R_below HS5.out hb7); have HT7 := Aside0.mk (Kd.R_below HT5.out hb7); have HX7 := Aside0.mk (blk_below (blk_new w5 (.cells #[.int .i64 d1, .int .i64 d2, .int .i64 d3, .int .i64 d4, .int .i64 d5] 24)) hb); have hc7_0 : w7.cell? ⟨w5.heap.size, 0, none⟩ = some (.int .i64 d1) := (blk_cell HX7.out 0).trans rfl; have hc7_1 : w7.cell? ⟨w5.heap.size, 1, none⟩ = some (.int .i64 d2) := (blk_cell HX7.out 1).trans rfl; have hc7_2 : w7.cell? ⟨w5.heap.size, 2, none⟩ = some (.int .i64 d3) := (blk_cell HX7.out 2).trans rfl; have hc7_3 : w7.cell? ⟨w5.heap.size, 3, none⟩ = some (.int .i64 d4) := (blk_cell HX7.out 3).trans rfl; have hc7_4 : w7.cell? ⟨w5.heap.size, 4, none⟩ = some (.int .i64 d5) := (blk_cell HX7.out 4).trans rfl; clear hb hb7)
          | (go_at_call 8; ((with_reducible refine (listing_Target.calls 0 d1 d2 d3 d4 d5 g1 false _ HG.out).mono ?_)); rintro e w9 ⟨rfl, hb⟩; have HB9 := Aside0.mk (below_step HB7.out hb); have HS9 := Aside0.mk (Kd.R_below HS7.out hb); have HT9 := Aside0.mk (Kd.R_below HT7.out hb); have HX9 := Aside0.mk (blk_below HX7.out hb); have hc9_0 : w9.cell? ⟨w5.heap.size, 0, none⟩ = some (.int .i64 d1) := (blk_cell HX9.out 0).trans rfl; have hc9_1 : w9.cell? ⟨w5.heap.size, 1, none⟩ = some (.int .i64 d2) := (blk_cell HX9.out 1).trans rfl; have hc9_2 : w9.cell? ⟨w5.heap.size, 2, none⟩ = some (.int .i64 d3) := (blk_cell HX9.out 2).trans rfl; have hc9_3 : w9.cell? ⟨w5.heap.size, 3, none⟩ = some (.int .i64 d4) := (blk_cell HX9.out 3).trans rfl; have hc9_4 : w9.cell? ⟨w5.heap.size, 4, none⟩ = some (.int .i64 d5) := (blk_cell HX9.out 4).trans rfl; clear hb))
         go_roundg k1
         case measure => have := HK.out; omega
         case rel => exact ⟨seen.set x.toNat true, lr_rest op, H2, ⟨by have := HK.out; omega⟩, ⟨by rw [List.length_set]; exact HN.out⟩, HT9, HS9, HB9⟩
        ·
         have H2 := Aside0.mk (show listing_Reached.l0 l0 k1 (seen.set x.toNat true) (lr_rest op ++ [wrap64 (x + 1 + d5)]) = some r from by first | (simp only [if_true, if_false, Bool.false_eq_true, List.append_nil, List.nil_append] at h; first | exact h | (rw [List.append_assoc]; exact h)))
         clear h
         go_wp2_with (first
          | ((with_reducible refine gate_store (t := 4) (p := 48) rfl ?_); refine store_event (t := 4) (p := 48) (v := ?vo1) (w1 := (wr.setCell ⟨gs, x.toNat, none⟩ (.bool true))) ?hg ?ho ?hn ?hr ?_; (case ho => rfl); (case hg => rfl); (case hn => rfl); (case hr => first | (go_simp; done) | (go_simp; rfl)); intro w4 hw; have HS4b := Aside0.mk (show Kd.R Kd.bool 4 w4 w.heap.size (fun _ => True) (.slice (some ⟨gs, 0, none⟩) l0.length cD) (seen.set x.toNat true) from (by rw [hw]; exact HP.out.1)); have HG4 := Aside0.mk (show wr.grownBy w4 (some gs) from (by rw [hw]; exact HP.out.2)); have HT4 := Aside0.mk (Kd.R_over' (v := (.slice (some ⟨gs, 0, none⟩) l0.length cD)) HT.out (Kd.R_typed HS.out) (by decide) HG4.out); have HB5 := Aside0.mk ((by rw [hw]; exact below_set HB.out HGS.out : Below w.heap.size w w4)); have hx3 : w4.cell? (ad.add x.toNat) = some (.int .u32 (rd l0 x)) := (by rw [hw]; exact lr_far (j := x.toNat) (gs := gs) HB.out HGS.out HX2.out HR0.out hx00 hxn (.bool true)); clear hw)
          | (go_at_call 20; ((with_reducible refine (instr_Decode.calls k1 (rd l0 x) d1 d2 d3 d4 d5 d6 _ HD.out).mono ?_)); rintro e w5 ⟨rfl, hb⟩; have HB6 := Aside0.mk (below_step HB5.out hb); have HS5 := Aside0.mk (Kd.R_below HS4b.out hb); have HT5 := Aside0.mk (Kd.R_below HT4.out hb); clear hb)
          | (go_at_call 26; ((with_reducible refine (listing_falls.calls d1 d2 d3 d4 d5 false _ HF.out).mono ?_)); rintro e w7 ⟨rfl, hb⟩; have hb7 := below_step (below_alloc (Below.refl w5.heap.size w5) (.cells #[.int .i64 d1, .int .i64 d2, .int .i64 d3, .int .i64 d4, .int .i64 d5] 24)) hb; have HB7 := Aside0.mk (below_step HB6.out hb7); have HS7 := Aside0.mk (Kd.R_below HS5.out hb7); have HT7 := Aside0.mk (Kd.R_below HT5.out hb7); have HX7 := Aside0.mk (blk_below (blk_new w5 (.cells #[.int .i64 d1, .int .i64 d2, .int .i64 d3, .int .i64 d4, .int .i64 d5] 24)) hb); have hc7_0 : w7.cell? ⟨w5.heap.size, 0, none⟩ = some (.int .i64 d1) := (blk_cell HX7.out 0).trans rfl; have hc7_1 : w7.cell? ⟨w5.heap.size, 1, none⟩ = some (.int .i64 d2) := (blk_cell HX7.out 1).trans rfl; have hc7_2 : w7.cell? ⟨w5.heap.size, 2, none⟩ = some (.int .i64 d3) := (blk_cell HX7.out 2).trans rfl; have hc7_3 : w7.cell? ⟨w5.heap.size, 3, none⟩ = some (.int .i64 d4) := (blk_cell HX7.out 3).trans rfl; have hc7_4 : w7.cell? ⟨w5.heap.size, 4, none⟩ = some (.int .i64 d5) := (blk_cell HX7.out 4).trans rfl; clear hb hb7)
          | (go_at_call 8; ((with_reducible refine (listing_Target.calls 0 d1 d2 d3 d4 d5 g1 true _ HG.out).mono ?_)); rintro e w9 ⟨rfl, hb⟩; have HB9 := Aside0.mk (below_step HB7.out hb); have HS9 := Aside0.mk (Kd.R_below HS7.out hb); have HT9 := Aside0.mk (Kd.R_below HT7.out hb); have HX9 := Aside0.mk (blk_below HX7.out hb); have hc9_0 : w9.cell? ⟨w5.heap.size, 0, none⟩ = some (.int .i64 d1) := (blk_cell HX9.out 0).trans rfl; have hc9_1 : w9.cell? ⟨w5.heap.size, 1, none⟩ = some (.int .i64 d2) := (blk_cell HX9.out 1).trans rfl; have hc9_2 : w9.cell? ⟨w5.heap.size, 2, none⟩ = some (.int .i64 d3) := (blk_cell HX9.out 2).trans rfl; have hc9_3 : w9.cell? ⟨w5.heap.size, 3, none⟩ = some (.int .i64 d4) := (blk_cell HX9.out 3).trans rfl; have hc9_4 : w9.cell? ⟨w5.heap.size, 4, none⟩ = some (.int .i64 d5) := (blk_cell HX9.out 4).trans rfl; clear hb)
          | ((with_reducible refine gate_builtin (b := .append) (xs := #[.tmp 72, .tmp 78]) rfl ?_); at_builtin; refine Kd.R_append (Kd.int .i64) (w0 := w) w.heap.size rfl (.tmp 72) (.tmp 78) 31 3 (.int .i64 0) 8 rfl Try.underlying31 info3 rfl (by decide) (by omega) (.slice (some ⟨go, 0, none⟩) (op.length - 1) co) (lr_rest op) (wrap64 (x + 1 + d5)) [.int .i64 (wrap64 (x + 1 + d5))] (fun _ => True) (fun _ => False) rfl (by first | rfl | (go_simp; done) | (go_simp; rfl)) ?a10P (fun _ hk => hk.elim) ?a10F ?a10O ?a10B ?a10S ?a10L ?_; (case a10P => exact rfl); (case a10B => exact HB9.out); (case a10F => exact (fun _ _ => trivial)); (case a10O => exact HT9.out); (case a10S => exact HB9.out.size); (case a10L => have := HOB.out; have := HRL.out; (try simp only [List.length_append, List.length_singleton]); omega); intro v10 w10 ho hb hg hat; have HT10 := Aside0.mk ho; have HB10 := Aside0.mk hb; have HS10 := Aside0.mk (Kd.R_over' HS9.out (Kd.R_typed HT9.out) (by decide) hg); have HX10 := Aside0.mk (blk_grown HX9.out hg (Kd.R_ne HT9.out HX9.out (by decide))); have hc10_0 : w10.cell? ⟨w5.heap.size, 0, none⟩ = some (.int .i64 d1) := (blk_cell HX10.out 0).trans rfl; have hc10_1 : w10.cell? ⟨w5.heap.size, 1, none⟩ = some (.int .i64 d2) := (blk_cell HX10.out 1).trans rfl; have hc10_2 : w10.cell? ⟨w5.heap.size, 2, none⟩ = some (.int .i64 d3) := (blk_cell HX10.out 2).trans rfl; have hc10_3 : w10.cell? ⟨w5.heap.size, 3, none⟩ = some (.int .i64 d4) := (blk_cell HX10.out 3).trans rfl; have hc10_4 : w10.cell? ⟨w5.heap.size, 4, none⟩ = some (.int .i64 d5) := (blk_cell HX10.out 4).trans rfl; clear ho hb hg hat))
         go_roundg k1
         case measure => have := HK.out; omega
         case rel => exact ⟨seen.set x.toNat true, lr_rest op ++ [wrap64 (x + 1 + d5)], H2, ⟨by have := HK.out; omega⟩, ⟨by rw [List.length_set]; exact HN.out⟩, HT10, HS10, HB10⟩
        ·
         have H2 := Aside0.mk (show listing_Reached.l0 l0 k1 (seen.set x.toNat true) (lr_rest op ++ [x + 1]) = some r from by first | (simp only [if_true, if_false, Bool.false_eq_true, List.append_nil, List.nil_append] at h; first | exact h | (rw [List.append_assoc]; exact h)))
         clear h
         go_wp2_with (first
          | ((with_reducible refine gate_store (t := 4) (p := 48) rfl ?_); refine store_event (t := 4) (p := 48) (v := ?vo1) (w1 := (wr.setCell ⟨gs, x.toNat, none⟩ (.bool true))) ?hg ?ho ?hn ?hr ?_; (case ho => rfl); (case hg => rfl); (case hn => rfl); (case hr => first | (go_simp; done) | (go_simp; rfl)); intro w4 hw; have HS4b := Aside0.mk (show Kd.R Kd.bool 4 w4 w.heap.size (fun _ => True) (.slice (some ⟨gs, 0, none⟩) l0.length cD) (seen.set x.toNat true) from (by rw [hw]; exact HP.out.1)); have HG4 := Aside0.mk (show wr.grownBy w4 (some gs) from (by rw [hw]; exact HP.out.2)); have HT4 := Aside0.mk (Kd.R_over' (v := (.slice (some ⟨gs, 0, none⟩) l0.length cD)) HT.out (Kd.R_typed HS.out) (by decide) HG4.out); have HB5 := Aside0.mk ((by rw [hw]; exact below_set HB.out HGS.out : Below w.heap.size w w4)); have hx3 : w4.cell? (ad.add x.toNat) = some (.int .u32 (rd l0 x)) := (by rw [hw]; exact lr_far (j := x.toNat) (gs := gs) HB.out HGS.out HX2.out HR0.out hx00 hxn (.bool true)); clear hw)
          | (go_at_call 20; ((with_reducible refine (instr_Decode.calls k1 (rd l0 x) d1 d2 d3 d4 d5 d6 _ HD.out).mono ?_)); rintro e w5 ⟨rfl, hb⟩; have HB6 := Aside0.mk (below_step HB5.out hb); have HS5 := Aside0.mk (Kd.R_below HS4b.out hb); have HT5 := Aside0.mk (Kd.R_below HT4.out hb); clear hb)
          | (go_at_call 26; ((with_reducible refine (listing_falls.calls d1 d2 d3 d4 d5 true _ HF.out).mono ?_)); rintro e w7 ⟨rfl, hb⟩; have hb7 := below_step (below_alloc (Below.refl w5.heap.size w5) (.cells #[.int .i64 d1, .int .i64 d2, .int .i64 d3, .int .i64 d4, .int .i64 d5] 24)) hb; have HB7 := Aside0.mk (below_step HB6.out hb7); have HS7 := Aside0.mk (Kd.R_below HS5.out hb7); have HT7 := Aside0.mk (Kd.R_below HT5.out hb7); have HX7 := Aside0.mk (blk_below (blk_new w5 (.cells #[.int .i64 d1, .int .i64 d2, .int .i64 d3, .int .i64 d4, .int .i64 d5] 24)) hb); have hc7_0 : w7.cell? ⟨w5.heap.size, 0, none⟩ = some (.int .i64 d1) := (blk_cell HX7.out 0).trans rfl; have hc7_1 : w7.cell? ⟨w5.heap.size, 1, none⟩ = some (.int .i64 d2) := (blk_cell HX7.out 1).trans rfl; have hc7_2 : w7.cell? ⟨w5.heap.size, 2, none⟩ = some (.int .i64 d3) := (blk_cell HX7.out 2).trans rfl; have hc7_3 : w7.cell? ⟨w5.heap.size, 3, none⟩ = some (.int .i64 d4) := (blk_cell HX7.out 3).trans rfl; have hc7_4 : w7.cell? ⟨w5.heap.size, 4, none⟩ = some (.int .i64 d5) := (blk_cell HX7.out 4).trans rfl; clear hb hb7)
          | ((with_reducible refine gate_builtin (b := .append) (xs := #[.tmp 61, .tmp 64]) rfl ?_); at_builtin; refine Kd.R_append (Kd.int .i64) (w0 := w) w.heap.size rfl (.tmp 61) (.tmp 64) 31 3 (.int .i64 0) 8 rfl Try.underlying31 info3 rfl (by decide) (by omega) (.slice (some ⟨go, 0, none⟩) (op.length - 1) co) (lr_rest op) (x + 1) [.int .i64 (x + 1)] (fun _ => True) (fun _ => False) rfl (by first | rfl | (go_simp; done) | (go_simp; rfl)) ?a8P (fun _ hk => hk.elim) ?a8F ?a8O ?a8B ?a8S ?a8L ?_; (case a8P => exact rfl); (case a8B => exact HB7.out); (case a8F => exact (fun _ _ => trivial)); (case a8O => exact HT7.out); (case a8S => exact HB7.out.size); (case a8L => have := HOB.out; have := HRL.out; (try simp only [List.length_append, List.length_singleton]); omega); intro v8 w8 ho hb hg hat; have HT8 := Aside0.mk ho; have HB8 := Aside0.mk hb; have HS8 := Aside0.mk (Kd.R_over' HS7.out (Kd.R_typed HT7.out) (by decide) hg); have HX8 := Aside0.mk (blk_grown HX7.out hg (Kd.R_ne HT7.out HX7.out (by decide))); have hc8_0 : w8.cell? ⟨w5.heap.size, 0, none⟩ = some (.int .i64 d1) := (blk_cell HX8.out 0).trans rfl; have hc8_1 : w8.cell? ⟨w5.heap.size, 1, none⟩ = some (.int .i64 d2) := (blk_cell HX8.out 1).trans rfl; have hc8_2 : w8.cell? ⟨w5.heap.size, 2, none⟩ = some (.int .i64 d3) := (blk_cell HX8.out 2).trans rfl; have hc8_3 : w8.cell? ⟨w5.heap.size, 3, none⟩ = some (.int .i64 d4) := (blk_cell HX8.out 3).trans rfl; have hc8_4 : w8.cell? ⟨w5.heap.size, 4, none⟩ = some (.int .i64 d5) := (blk_cell HX8.out 4).trans rfl; clear ho hb hg hat)
          | (go_at_call 8; ((with_reducible refine (listing_Target.calls 0 d1 d2 d3 d4 d5 g1 false _ HG.out).mono ?_)); rintro e w9 ⟨rfl, hb⟩; have HB9 := Aside0.mk (below_step HB8.out hb); have HS9 := Aside0.mk (Kd.R_below HS8.out hb); have HT9 := Aside0.mk (Kd.R_below HT8.out hb); have HX9 := Aside0.mk (blk_below HX8.out hb); have hc9_0 : w9.cell? ⟨w5.heap.size, 0, none⟩ = some (.int .i64 d1) := (blk_cell HX9.out 0).trans rfl; have hc9_1 : w9.cell? ⟨w5.heap.size, 1, none⟩ = some (.int .i64 d2) := (blk_cell HX9.out 1).trans rfl; have hc9_2 : w9.cell? ⟨w5.heap.size, 2, none⟩ = some (.int .i64 d3) := (blk_cell HX9.out 2).trans rfl; have hc9_3 : w9.cell? ⟨w5.heap.size, 3, none⟩ = some (.int .i64 d4) := (blk_cell HX9.out 3).trans rfl; have hc9_4 : w9.cell? ⟨w5.heap.size, 4, none⟩ = some (.int .i64 d5) := (blk_cell HX9.out 4).trans rfl; clear hb))
         go_roundg k1
         case measure => have := HK.out; omega
         case rel => exact ⟨seen.set x.toNat true, lr_rest op ++ [x + 1], H2, ⟨by have := HK.out; omega⟩, ⟨by rw [List.length_set]; exact HN.out⟩, HT9, HS9, HB9⟩
        ·
         have H2 := Aside0.mk (show listing_Reached.l0 l0 k1 (seen.set x.toNat true) (lr_rest op ++ [x + 1] ++ [wrap64 (x + 1 + d5)]) = some r from by first | (simp only [if_true, if_false, Bool.false_eq_true, List.append_nil, List.nil_append] at h; first | exact h | (rw [List.append_assoc]; exact h)))
         clear h
         go_wp2_with (first
          | ((with_reducible refine gate_store (t := 4) (p := 48) rfl ?_); refine store_event (t := 4) (p := 48) (v := ?vo1) (w1 := (wr.setCell ⟨gs, x.toNat, none⟩ (.bool true))) ?hg ?ho ?hn ?hr ?_; (case ho => rfl); (case hg => rfl); (case hn => rfl); (case hr => first | (go_simp; done) | (go_simp; rfl)); intro w4 hw; have HS4b := Aside0.mk (show Kd.R Kd.bool 4 w4 w.heap.size (fun _ => True) (.slice (some ⟨gs, 0, none⟩) l0.length cD) (seen.set x.toNat true) from (by rw [hw]; exact HP.out.1)); have HG4 := Aside0.mk (show wr.grownBy w4 (some gs) from (by rw [hw]; exact HP.out.2)); have HT4 := Aside0.mk (Kd.R_over' (v := (.slice (some ⟨gs, 0, none⟩) l0.length cD)) HT.out (Kd.R_typed HS.out) (by decide) HG4.out); have HB5 := Aside0.mk ((by rw [hw]; exact below_set HB.out HGS.out : Below w.heap.size w w4)); have hx3 : w4.cell? (ad.add x.toNat) = some (.int .u32 (rd l0 x)) := (by rw [hw]; exact lr_far (j := x.toNat) (gs := gs) HB.out HGS.out HX2.out HR0.out hx00 hxn (.bool true)); clear hw)
          | (go_at_call 20; ((with_reducible refine (instr_Decode.calls k1 (rd l0 x) d1 d2 d3 d4 d5 d6 _ HD.out).mono ?_)); rintro e w5 ⟨rfl, hb⟩; have HB6 := Aside0.mk (below_step HB5.out hb); have HS5 := Aside0.mk (Kd.R_below HS4b.out hb); have HT5 := Aside0.mk (Kd.R_below HT4.out hb); clear hb)
          | (go_at_call 26; ((with_reducible refine (listing_falls.calls d1 d2 d3 d4 d5 true _ HF.out).mono ?_)); rintro e w7 ⟨rfl, hb⟩; have hb7 := below_step (below_alloc (Below.refl w5.heap.size w5) (.cells #[.int .i64 d1, .int .i64 d2, .int .i64 d3, .int .i64 d4, .int .i64 d5] 24)) hb; have HB7 := Aside0.mk (below_step HB6.out hb7); have HS7 := Aside0.mk (Kd.R_below HS5.out hb7); have HT7 := Aside0.mk (Kd.R_below HT5.out hb7); have HX7 := Aside0.mk (blk_below (blk_new w5 (.cells #[.int .i64 d1, .int .i64 d2, .int .i64 d3, .int .i64 d4, .int .i64 d5] 24)) hb); have hc7_0 : w7.cell? ⟨w5.heap.size, 0, none⟩ = some (.int .i64 d1) := (blk_cell HX7.out 0).trans rfl; have hc7_1 : w7.cell? ⟨w5.heap.size, 1, none⟩ = some (.int .i64 d2) := (blk_cell HX7.out 1).trans rfl; have hc7_2 : w7.cell? ⟨w5.heap.size, 2, none⟩ = some (.int .i64 d3) := (blk_cell HX7.out 2).trans rfl; have hc7_3 : w7.cell? ⟨w5.heap.size, 3, none⟩ = some (.int .i64 d4) := (blk_cell HX7.out 3).trans rfl; have hc7_4 : w7.cell? ⟨w5.heap.size, 4, none⟩ = some (.int .i64 d5) := (blk_cell HX7.out 4).trans rfl; clear hb hb7)
          | ((with_reducible refine gate_builtin (b := .append) (xs := #[.tmp 61, .tmp 64]) rfl ?_); at_builtin; refine Kd.R_append (Kd.int .i64) (w0 := w) w.heap.size rfl (.tmp 61) (.tmp 64) 31 3 (.int .i64 0) 8 rfl Try.underlying31 info3 rfl (by decide) (by omega) (.slice (some ⟨go, 0, none⟩) (op.length - 1) co) (lr_rest op) (x + 1) [.int .i64 (x + 1)] (fun _ => True) (fun _ => False) rfl (by first | rfl | (go_simp; done) | (go_simp; rfl)) ?a8P (fun _ hk => hk.elim) ?a8F ?a8O ?a8B ?a8S ?a8L ?_; (case a8P => exact rfl); (case a8B => exact HB7.out); (case a8F => exact (fun _ _ => trivial)); (case a8O => exact HT7.out); (case a8S => exact HB7.out.size); (case a8L => have := HOB.out; have := HRL.out; (try simp only [List.length_append, List.length_singleton]); omega); intro v8 w8 ho hb hg hat; have HT8 := Aside0.mk ho; have HB8 := Aside0.mk hb; have HS8 := Aside0.mk (Kd.R_over' HS7.out (Kd.R_typed HT7.out) (by decide) hg); have HX8 := Aside0.mk (blk_grown HX7.out hg (Kd.R_ne HT7.out HX7.out (by decide))); have hc8_0 : w8.cell? ⟨w5.heap.size, 0, none⟩ = some (.int .i64 d1) := (blk_cell HX8.out 0).trans rfl; have hc8_1 : w8.cell? ⟨w5.heap.size, 1, none⟩ = some (.int .i64 d2) := (blk_cell HX8.out 1).trans rfl; have hc8_2 : w8.cell? ⟨w5.heap.size, 2, none⟩ = some (.int .i64 d3) := (blk_cell HX8.out 2).trans rfl; have hc8_3 : w8.cell? ⟨w5.heap.size, 3, none⟩ = some (.int .i64 d4) := (blk_cell HX8.out 3).trans rfl; have hc8_4 : w8.cell? ⟨w5.heap.size, 4, none⟩ = some (.int .i64 d5) := (blk_cell HX8.out 4).trans rfl; clear ho hb hg hat)
          | (go_at_call 8; ((with_reducible refine (listing_Target.calls 0 d1 d2 d3 d4 d5 g1 true _ HG.out).mono ?_)); rintro e w9 ⟨rfl, hb⟩; have HB9 := Aside0.mk (below_step HB8.out hb); have HS9 := Aside0.mk (Kd.R_below HS8.out hb); have HT9 := Aside0.mk (Kd.R_below HT8.out hb); have HX9 := Aside0.mk (blk_below HX8.out hb); have hc9_0 : w9.cell? ⟨w5.heap.size, 0, none⟩ = some (.int .i64 d1) := (blk_cell HX9.out 0).trans rfl; have hc9_1 : w9.cell? ⟨w5.heap.size, 1, none⟩ = some (.int .i64 d2) := (blk_cell HX9.out 1).trans rfl; have hc9_2 : w9.cell? ⟨w5.heap.size, 2, none⟩ = some (.int .i64 d3) := (blk_cell HX9.out 2).trans rfl; have hc9_3 : w9.cell? ⟨w5.heap.size, 3, none⟩ = some (.int .i64 d4) := (blk_cell HX9.out 3).trans rfl; have hc9_4 : w9.cell? ⟨w5.heap.size, 4, none⟩ = some (.int .i64 d5) := (blk_cell HX9.out 4).trans rfl; clear hb)
          | ((with_reducible refine gate_builtin (b := .append) (xs := #[.tmp 72, .tmp 78]) rfl ?_); at_builtin; refine Kd.R_append (Kd.int .i64) (w0 := w) w.heap.size rfl (.tmp 72) (.tmp 78) 31 3 (.int .i64 0) 8 rfl Try.underlying31 info3 rfl (by decide) (by omega) v8 (lr_rest op ++ [x + 1]) (wrap64 (x + 1 + d5)) [.int .i64 (wrap64 (x + 1 + d5))] (fun _ => True) (fun _ => False) rfl (by first | rfl | (go_simp; done) | (go_simp; rfl)) ?a10P (fun _ hk => hk.elim) ?a10F ?a10O ?a10B ?a10S ?a10L ?_; (case a10P => exact rfl); (case a10B => exact HB9.out); (case a10F => exact (fun _ _ => trivial)); (case a10O => exact HT9.out); (case a10S => exact HB9.out.size); (case a10L => have := HOB.out; have := HRL.out; (try simp only [List.length_append, List.length_singleton]); omega); intro v10 w10 ho hb hg hat; have HT10 := Aside0.mk ho; have HB10 := Aside0.mk hb; have HS10 := Aside0.mk (Kd.R_over' HS9.out (Kd.R_typed HT9.out) (by decide) hg); have HX10 := Aside0.mk (blk_grown HX9.out hg (Kd.R_ne HT9.out HX9.out (by decide))); have hc10_0 : w10.cell? ⟨w5.heap.size, 0, none⟩ = some (.int .i64 d1) := (blk_cell HX10.out 0).trans rfl; have hc10_1 : w10.cell? ⟨w5.heap.size, 1, none⟩ = some (.int .i64 d2) := (blk_cell HX10.out 1).trans rfl; have hc10_2 : w10.cell? ⟨w5.heap.size, 2, none⟩ = some (.int .i64 d3) := (blk_cell HX10.out 2).trans rfl; have hc10_3 : w10.cell? ⟨w5.heap.size, 3, none⟩ = some (.int .i64 d4) := (blk_cell HX10.out 3).trans rfl; have hc10_4 : w10.cell? ⟨w5.heap.size, 4, none⟩ = some (.int .i64 d5) := (blk_cell HX10.out 4).trans rfl; clear ho hb hg hat))
         go_roundg k1
         case measure => have := HK.out; omega
         case rel => exact ⟨seen.set x.toNat true, lr_rest op ++ [x + 1] ++ [wrap64 (x + 1 + d5)], H2, ⟨by have := HK.out; omega⟩, ⟨by rw [List.length_set]; exact HN.out⟩, HT10, HS10, HB10⟩
       ·
        rw [if_neg z] at hnx
        injection hnx with hnx
        subst hnx
        have z1 : (d6 == 0) = false := beq_eq_false_iff_ne.mpr z
        have z2 : (d6 != 0) = true := bne_iff_ne.mpr z
        rw [List.append_nil] at h
        have H2 := Aside0.mk h
        clear h z
        go_wp2_with (first
         | ((with_reducible refine gate_store (t := 4) (p := 48) rfl ?_); refine store_event (t := 4) (p := 48) (v := ?vo1) (w1 := (wr.setCell ⟨gs, x.toNat, none⟩ (.bool true))) ?hg ?ho ?hn ?hr ?_; (case ho => rfl); (case hg => rfl); (case hn => rfl); (case hr => first | (go_simp; done) | (go_simp; rfl)); intro w4 hw; have HS4b := Aside0.mk (show Kd.R Kd.bool 4 w4 w.heap.size (fun _ => True) (.slice (some ⟨gs, 0, none⟩) l0.length cD) (seen.set x.toNat true) from (by rw [hw]; exact HP.out.1)); have HG4 := Aside0.mk (show wr.grownBy w4 (some gs) from (by rw [hw]; exact HP.out.2)); have HT4 := Aside0.mk (Kd.R_over' (v := (.slice (some ⟨gs, 0, none⟩) l0.length cD)) HT.out (Kd.R_typed HS.out) (by decide) HG4.out); have HB5 := Aside0.mk ((by rw [hw]; exact below_set HB.out HGS.out : Below w.heap.size w w4)); have hx3 : w4.cell? (ad.add x.toNat) = some (.int .u32 (rd l0 x)) := (by rw [hw]; exact lr_far (j := x.toNat) (gs := gs) HB.out HGS.out HX2.out HR0.out hx00 hxn (.bool true)); clear hw)
         | (go_at_call 20; ((with_reducible refine (instr_Decode.calls k1 (rd l0 x) d1 d2 d3 d4 d5 d6 _ HD.out).mono ?_)); rintro e w5 ⟨rfl, hb⟩; have HB6 := Aside0.mk (below_step HB5.out hb); have HS5 := Aside0.mk (Kd.R_below HS4b.out hb); have HT5 := Aside0.mk (Kd.R_below HT4.out hb); clear hb))
        go_roundg k1
        case measure => have := HK.out; omega
        case rel => exact ⟨seen.set x.toNat true, lr_rest op, H2, ⟨by have := HK.out; omega⟩, ⟨by rw [List.length_set]; exact HN.out⟩, ⟨Kd.R_alloc HT5.out _⟩, ⟨Kd.R_alloc HS5.out _⟩, ⟨below_alloc HB6.out _⟩⟩
    ·
     rw [if_neg hob] at h; exact absurd h (by simp)
 ·
  rw [if_neg hc] at h; exact absurd h (by simp)


end Go.Proofs.Ytfagpgpeiomnpaa.P

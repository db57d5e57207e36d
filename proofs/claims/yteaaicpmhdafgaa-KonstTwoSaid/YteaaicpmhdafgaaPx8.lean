-- Written by a program of this session (wip/tools/hp.py) out of the translation.
import Derived.Test.YteaaicpmhdafgaaPx0
import Derived.Test.YteaaicpmhdafgaaPx5
import Derived.Test.YteaaicpmhdafgaaPx6
import Derived.Test.YteaaicpmhdafgaaPx7
namespace Go.Proofs.Yteaaicpmhdafgaa.P
open Go.RowKit Go.Proofs.YteaaicpmhdafgaaW.PrintWords Go.Proofs.YteaaicpmhdafgaaW.PrintLast Go.Proofs.YteaaicpmhdafgaaW.PrintMore
attribute [local go_sem] max2_int min2_int max_two min_two max_three min_three max_four min_four   -- for this text's walks alone
set_option linter.unusedVariables false
set_option linter.unusedSimpArgs false

/-! ### konst_Two: function 9 -/
mutual
def konst_Two.j0 : Nat → ByteArray → ByteArray → Bool → Int → Int → Int → Int → Option (Int × Int × Int)
  | 0, _, _, _, _, _, _, _ => none
  | k + 1, x0, x8, x9, x138000, x138001, x139000, x139001 => if x9 = true then ((konst_reckon.f k x0 x138000 x138001 x139000 x139001).bind fun bt140 => (some (bt140.1, bt140.2.1, bt140.2.2))) else (if x8.toList = ([65, 78, 68] : List UInt8) then (konst_Two.j1 k x0 x8 (x8.toList == ([65, 78, 68] : List UInt8)) x138000 x138001 x139000 x139001) else (konst_Two.j1 k x0 x8 (x8.toList == ([79, 82] : List UInt8)) x138000 x138001 x139000 x139001))
def konst_Two.j1 : Nat → ByteArray → ByteArray → Bool → Int → Int → Int → Int → Option (Int × Int × Int)
  | 0, _, _, _, _, _, _, _ => none
  | k + 1, x0, x8, x21, x138000, x138001, x139000, x139001 => if x21 = true then (if x138000 = 2 then (konst_Two.j2 k x0 (x139000 != 2) x138000 x138001 x139000 x139001) else (konst_Two.j2 k x0 true x138000 x138001 x139000 x139001)) else (if x8.toList = ([61] : List UInt8) then ((konst_compare.f k x0 x138000 x138001 x139000 x139001).bind fun bt151 => (some (bt151.1, bt151.2.1, bt151.2.2))) else (if x8.toList = ([35] : List UInt8) then ((konst_compare.f k x0 x138000 x138001 x139000 x139001).bind fun bt154 => (some (bt154.1, bt154.2.1, bt154.2.2))) else (if x8.toList = ([60] : List UInt8) then ((konst_compare.f k x0 x138000 x138001 x139000 x139001).bind fun bt157 => (some (bt157.1, bt157.2.1, bt157.2.2))) else (if x8.toList = ([60, 61] : List UInt8) then ((konst_compare.f k x0 x138000 x138001 x139000 x139001).bind fun bt160 => (some (bt160.1, bt160.2.1, bt160.2.2))) else (if x8.toList = ([62] : List UInt8) then ((konst_compare.f k x0 x138000 x138001 x139000 x139001).bind fun bt163 => (some (bt163.1, bt163.2.1, bt163.2.2))) else (if x8.toList = ([62, 61] : List UInt8) then ((konst_compare.f k x0 x138000 x138001 x139000 x139001).bind fun bt166 => (some (bt166.1, bt166.2.1, bt166.2.2))) else (some (0, 0, 110))))))))
def konst_Two.j2 : Nat → ByteArray → Bool → Int → Int → Int → Int → Option (Int × Int × Int)
  | 0, _, _, _, _, _, _ => none
  | k + 1, x0, x31, x138000, x138001, x139000, x139001 => if x31 = true then (some (0, 0, 91)) else (if x0.toList = ([65, 78, 68] : List UInt8) then (if x138001 = 0 then ((konst_truth.f false).bind fun bt143 => (some (bt143.1, bt143.2, 0))) else ((konst_truth.f (x139001 != 0)).bind fun bt145 => (some (bt145.1, bt145.2, 0)))) else (if x138001 = 0 then ((konst_truth.f (x139001 != 0)).bind fun bt147 => (some (bt147.1, bt147.2, 0))) else ((konst_truth.f true).bind fun bt149 => (some (bt149.1, bt149.2, 0)))))
end
def konst_Two.f (k : Nat) (a0 : ByteArray) (a1_0 : Int) (a1_1 : Int) (a2_0 : Int) (a2_1 : Int) : Option (Int × Int × Int) := if a0.toList = ([43] : List UInt8) then (konst_Two.j0 k a0 a0 (a0.toList == ([43] : List UInt8)) a1_0 a1_1 a2_0 a2_1) else (if a0.toList = ([45] : List UInt8) then (konst_Two.j0 k a0 a0 (a0.toList == ([45] : List UInt8)) a1_0 a1_1 a2_0 a2_1) else (if a0.toList = ([42] : List UInt8) then (konst_Two.j0 k a0 a0 (a0.toList == ([42] : List UInt8)) a1_0 a1_1 a2_0 a2_1) else (if a0.toList = ([68, 73, 86] : List UInt8) then (konst_Two.j0 k a0 a0 (a0.toList == ([68, 73, 86] : List UInt8)) a1_0 a1_1 a2_0 a2_1) else (konst_Two.j0 k a0 a0 (a0.toList == ([77, 79, 68] : List UInt8)) a1_0 a1_1 a2_0 a2_1))))
theorem konst_Two.mono_l : ∀ k, (∀ y0 y1 y2 y3 y4 y5 y6, LeO (konst_Two.j0 k y0 y1 y2 y3 y4 y5 y6) (konst_Two.j0 (k + 1) y0 y1 y2 y3 y4 y5 y6)) ∧ (∀ y0 y1 y2 y3 y4 y5 y6, LeO (konst_Two.j1 k y0 y1 y2 y3 y4 y5 y6) (konst_Two.j1 (k + 1) y0 y1 y2 y3 y4 y5 y6)) ∧ (∀ y0 y1 y2 y3 y4 y5, LeO (konst_Two.j2 k y0 y1 y2 y3 y4 y5) (konst_Two.j2 (k + 1) y0 y1 y2 y3 y4 y5))
  | 0 => ⟨fun _ _ _ _ _ _ _ r h => by simp [konst_Two.j0] at h, fun _ _ _ _ _ _ _ r h => by simp [konst_Two.j1] at h, fun _ _ _ _ _ _ r h => by simp [konst_Two.j2] at h⟩
  | k + 1 => by
    obtain ⟨ih0, ih1, ih2⟩ := konst_Two.mono_l k
    refine ⟨?_, ?_, ?_⟩
    · intro y0 y1 y2 y3 y4 y5 y6
      unfold konst_Two.j0
      repeat' first
      | (with_reducible exact ih0 _ _ _ _ _ _ _)
      | (with_reducible exact ih1 _ _ _ _ _ _ _)
      | (with_reducible exact ih2 _ _ _ _ _ _)
      | (with_reducible exact konst_compare.mono _ _ _ _ _ _)
      | (with_reducible exact konst_reckon.mono _ _ _ _ _ _)
      | (with_reducible exact LeO.refl _)
      | (with_reducible exact LeO.none _)
      | (with_reducible refine LeO.ite ?_ ?_)
      | (with_reducible refine LeO.bind ?_ (fun _ => ?_))
      | exact ih0 _ _ _ _ _ _ _
      | exact ih1 _ _ _ _ _ _ _
      | exact ih2 _ _ _ _ _ _
      | exact konst_compare.mono _ _ _ _ _ _
      | exact konst_reckon.mono _ _ _ _ _ _
      | exact LeO.none _
      | refine LeO.ite ?_ ?_
      | refine LeO.bind ?_ (fun _ => ?_)
    · intro y0 y1 y2 y3 y4 y5 y6
      unfold konst_Two.j1
      repeat' first
      | (with_reducible exact ih0 _ _ _ _ _ _ _)
      | (with_reducible exact ih1 _ _ _ _ _ _ _)
      | (with_reducible exact ih2 _ _ _ _ _ _)
      | (with_reducible exact konst_compare.mono _ _ _ _ _ _)
      | (with_reducible exact konst_reckon.mono _ _ _ _ _ _)
      | (with_reducible exact LeO.refl _)
      | (with_reducible exact LeO.none _)
      | (with_reducible refine LeO.ite ?_ ?_)
      | (with_reducible refine LeO.bind ?_ (fun _ => ?_))
      | exact ih0 _ _ _ _ _ _ _
      | exact ih1 _ _ _ _ _ _ _
      | exact ih2 _ _ _ _ _ _
      | exact konst_compare.mono _ _ _ _ _ _
      | exact konst_reckon.mono _ _ _ _ _ _
      | exact LeO.none _
      | refine LeO.ite ?_ ?_
      | refine LeO.bind ?_ (fun _ => ?_)
    · intro y0 y1 y2 y3 y4 y5
      unfold konst_Two.j2
      repeat' first
      | (with_reducible exact ih0 _ _ _ _ _ _ _)
      | (with_reducible exact ih1 _ _ _ _ _ _ _)
      | (with_reducible exact ih2 _ _ _ _ _ _)
      | (with_reducible exact konst_compare.mono _ _ _ _ _ _)
      | (with_reducible exact konst_reckon.mono _ _ _ _ _ _)
      | (with_reducible exact LeO.refl _)
      | (with_reducible exact LeO.none _)
      | (with_reducible refine LeO.ite ?_ ?_)
      | (with_reducible refine LeO.bind ?_ (fun _ => ?_))
      | exact ih0 _ _ _ _ _ _ _
      | exact ih1 _ _ _ _ _ _ _
      | exact ih2 _ _ _ _ _ _
      | exact konst_compare.mono _ _ _ _ _ _
      | exact konst_reckon.mono _ _ _ _ _ _
      | exact LeO.none _
      | refine LeO.ite ?_ ?_
      | refine LeO.bind ?_ (fun _ => ?_)
theorem konst_Two.mono : ∀ a0 a1 a2 a3 a4 k, LeO (konst_Two.f k a0 a1 a2 a3 a4) (konst_Two.f (k + 1) a0 a1 a2 a3 a4) := by
  intro a0 a1 a2 a3 a4 k
  obtain ⟨ih0, ih1, ih2⟩ := konst_Two.mono_l k
  unfold konst_Two.f
  repeat' first
      | (with_reducible exact ih0 _ _ _ _ _ _ _)
      | (with_reducible exact ih1 _ _ _ _ _ _ _)
      | (with_reducible exact ih2 _ _ _ _ _ _)
      | (with_reducible exact konst_compare.mono _ _ _ _ _ _)
      | (with_reducible exact konst_reckon.mono _ _ _ _ _ _)
      | (with_reducible exact LeO.refl _)
      | (with_reducible exact LeO.none _)
      | (with_reducible refine LeO.ite ?_ ?_)
      | (with_reducible refine LeO.bind ?_ (fun _ => ?_))
      | exact ih0 _ _ _ _ _ _ _
      | exact ih1 _ _ _ _ _ _ _
      | exact ih2 _ _ _ _ _ _
      | exact konst_compare.mono _ _ _ _ _ _
      | exact konst_reckon.mono _ _ _ _ _ _
      | exact LeO.none _
      | refine LeO.ite ?_ ?_
      | refine LeO.bind ?_ (fun _ => ?_)
set_option maxHeartbeats 8000000 in
set_option maxRecDepth 100000 in
theorem konst_Two.calls (k : Nat) (a0 : ByteArray) (a1_0 : Int) (a1_1 : Int) (a2_0 : Int) (a2_1 : Int) (r1 : Int) (r2 : Int) (r3 : Int) (w : World) (h : konst_Two.f k a0 a1_0 a1_1 a2_0 a2_1 = some (r1, r2, r3)) :
    Calls Try.prog 9 #[.string a0, .agg #[.int .i64 a1_0, .int .i32 a1_1], .agg #[.int .i64 a2_0, .int .i32 a2_1]] w fun e w' => e = .returned (.tuple #[.agg #[.int .i64 r1, .int .i32 r2], .int .i64 r3]) ∧ Below w.heap.size w w' := by
  have hu23 := Try.underlying23
  have HB := Aside0.mk (Below.refl w.heap.size w)
  have H : (if a0.toList = ([43] : List UInt8) then (konst_Two.j0 k a0 a0 (a0.toList == ([43] : List UInt8)) a1_0 a1_1 a2_0 a2_1) else (if a0.toList = ([45] : List UInt8) then (konst_Two.j0 k a0 a0 (a0.toList == ([45] : List UInt8)) a1_0 a1_1 a2_0 a2_1) else (if a0.toList = ([42] : List UInt8) then (konst_Two.j0 k a0 a0 (a0.toList == ([42] : List UInt8)) a1_0 a1_1 a2_0 a2_1) else (if a0.toList = ([68, 73, 86] : List UInt8) then (konst_Two.j0 k a0 a0 (a0.toList == ([68, 73, 86] : List UInt8)) a1_0 a1_1 a2_0 a2_1) else (konst_Two.j0 k a0 a0 (a0.toList == ([77, 79, 68] : List UInt8)) a1_0 a1_1 a2_0 a2_1))))) = some (r1, r2, r3) := h
  clear h
  have HC4 := Aside0.mk H
  clear H
  go_enter Try.func9, Try.ntmps9
  go_upto_if 9 with (first | ((with_reducible refine gate_dst (N := 4) rfl ?_); refine box_event ?hg (N := 4) ?hd (cs := #[.int .i64 a1_0, .int .i32 a1_1]) (t := 23) ?hr ?_; (case hd => rfl); (case hg => rfl); (case hr => first | (go_simp; done) | (go_simp; rfl)); intro gb137 hg w5 hbox hb; have n0_ := Aside0.mk (below_step (by repeat (first | (with_reducible first | exact HB.out | apply below_alloc | apply pw_below_drewN | apply below_drew1) | exact HB.out)) hb); have n1_ := Aside0.mk (hbox); have n2_ := Aside0.mk ((by rw [hg]; exact (below_size (by repeat (first | (with_reducible first | exact HB.out | apply below_alloc | apply pw_below_drewN | apply below_drew1) | exact HB.out))) : w.heap.size ≤ gb137)); have n3_ := Aside0.mk ((by rw [hg]; exact (below_size (by repeat (first | (with_reducible first | exact HB.out | apply below_alloc | apply pw_below_drewN | apply below_drew1) | exact HB.out))) : w.heap.size ≤ gb137)); clear HB; have HB := n0_; have BK137 := n1_; have GW137 := n2_; have GE137 := n3_; clear n0_ n1_ n2_ n3_; clear hb hbox hg) | ((with_reducible refine gate_dst (N := 5) rfl ?_); refine box_event ?hg (N := 5) ?hd (cs := #[.int .i64 a2_0, .int .i32 a2_1]) (t := 23) ?hr ?_; (case hd => rfl); (case hg => rfl); (case hr => first | (go_simp; done) | (go_simp; rfl)); intro gb138 hg w6 hbox hb; have n0_ := Aside0.mk (blk_below (g := gb137) (o := .cells #[.int .i64 a1_0, .int .i32 a1_1] 23 (0, 0)) (by (with_reducible repeat (first | refine blk_drewN ?_ _ | refine blk_drew ?_ | refine blk_alloc ?_ _)); exact BK137.out) hb); have n1_ := Aside0.mk (below_step (by repeat (first | (with_reducible first | exact HB.out | apply below_alloc | apply pw_below_drewN | apply below_drew1 | refine below_set ?_ GE137.out) | exact HB.out)) hb); have n2_ := Aside0.mk (hbox); have n3_ := Aside0.mk ((by rw [hg]; exact (below_size (by repeat (first | (with_reducible first | exact HB.out | apply below_alloc | apply pw_below_drewN | apply below_drew1 | refine below_set ?_ GE137.out) | exact HB.out))) : w.heap.size ≤ gb138)); have n4_ := Aside0.mk ((by rw [hg]; exact (below_size (by repeat (first | (with_reducible first | exact HB.out | apply below_alloc | apply pw_below_drewN | apply below_drew1 | refine below_set ?_ GE137.out) | exact HB.out))) : w.heap.size ≤ gb138)); have n5_ := Aside0.mk ((by rw [hg]; exact Nat.ne_of_lt (blk_lt (g := gb137) (o := .cells #[.int .i64 a1_0, .int .i32 a1_1] 23 (0, 0)) (by (with_reducible repeat (first | refine blk_drewN ?_ _ | refine blk_drew ?_ | refine blk_alloc ?_ _)); exact BK137.out)) : gb137 ≠ gb138)); have n6_ := Aside0.mk ((by rw [hg]; exact Nat.ne_of_gt (blk_lt (g := gb137) (o := .cells #[.int .i64 a1_0, .int .i32 a1_1] 23 (0, 0)) (by (with_reducible repeat (first | refine blk_drewN ?_ _ | refine blk_drew ?_ | refine blk_alloc ?_ _)); exact BK137.out)) : gb138 ≠ gb137)); clear BK137; clear HB; have BK137 := n0_; have HB := n1_; have BK138 := n2_; have GW138 := n3_; have GE138 := n4_; have NB137_138 := n5_; have NB138_137 := n6_; clear n0_ n1_ n2_ n3_ n4_ n5_ n6_; clear hb hbox hg) | ((with_reducible refine gate_dst (N := 6) rfl ?_); refine box_event ?hg (N := 6) ?hd (cs := #[.int .i64 0, .int .i32 0]) (t := 23) ?hr ?_; (case hd => rfl); (case hg => rfl); (case hr => first | (go_simp; done) | (go_simp; rfl)); intro gb139 hg w7 hbox hb; have n0_ := Aside0.mk (blk_below (g := gb137) (o := .cells #[.int .i64 a1_0, .int .i32 a1_1] 23 (0, 0)) (by (with_reducible repeat (first | refine blk_drewN ?_ _ | refine blk_drew ?_ | refine blk_alloc ?_ _)); exact BK137.out) hb); have n1_ := Aside0.mk (blk_below (g := gb138) (o := .cells #[.int .i64 a2_0, .int .i32 a2_1] 23 (0, 0)) (by (with_reducible repeat (first | refine blk_drewN ?_ _ | refine blk_drew ?_ | refine blk_alloc ?_ _)); exact BK138.out) hb); have n2_ := Aside0.mk (below_step (by repeat (first | (with_reducible first | exact HB.out | apply below_alloc | apply pw_below_drewN | apply below_drew1 | refine below_set ?_ GE137.out | refine below_set ?_ GE138.out) | exact HB.out)) hb); have n3_ := Aside0.mk (hbox); have n4_ := Aside0.mk ((by rw [hg]; exact (below_size (by repeat (first | (with_reducible first | exact HB.out | apply below_alloc | apply pw_below_drewN | apply below_drew1 | refine below_set ?_ GE137.out | refine below_set ?_ GE138.out) | exact HB.out))) : w.heap.size ≤ gb139)); have n5_ := Aside0.mk ((by rw [hg]; exact (below_size (by repeat (first | (with_reducible first | exact HB.out | apply below_alloc | apply pw_below_drewN | apply below_drew1 | refine below_set ?_ GE137.out | refine below_set ?_ GE138.out) | exact HB.out))) : w.heap.size ≤ gb139)); have n6_ := Aside0.mk ((by rw [hg]; exact Nat.ne_of_lt (blk_lt (g := gb137) (o := .cells #[.int .i64 a1_0, .int .i32 a1_1] 23 (0, 0)) (by (with_reducible repeat (first | refine blk_drewN ?_ _ | refine blk_drew ?_ | refine blk_alloc ?_ _)); exact BK137.out)) : gb137 ≠ gb139)); have n7_ := Aside0.mk ((by rw [hg]; exact Nat.ne_of_gt (blk_lt (g := gb137) (o := .cells #[.int .i64 a1_0, .int .i32 a1_1] 23 (0, 0)) (by (with_reducible repeat (first | refine blk_drewN ?_ _ | refine blk_drew ?_ | refine blk_alloc ?_ _)); exact BK137.out)) : gb139 ≠ gb137)); have n8_ := Aside0.mk ((by rw [hg]; exact Nat.ne_of_lt (blk_lt (g := gb138) (o := .cells #[.int .i64 a2_0, .int .i32 a2_1] 23 (0, 0)) (by (with_reducible repeat (first | refine blk_drewN ?_ _ | refine blk_drew ?_ | refine blk_alloc ?_ _)); exact BK138.out)) : gb138 ≠ gb139)); have n9_ := Aside0.mk ((by rw [hg]; exact Nat.ne_of_gt (blk_lt (g := gb138) (o := .cells #[.int .i64 a2_0, .int .i32 a2_1] 23 (0, 0)) (by (with_reducible repeat (first | refine blk_drewN ?_ _ | refine blk_drew ?_ | refine blk_alloc ?_ _)); exact BK138.out)) : gb139 ≠ gb138)); clear BK137; clear BK138; clear HB; have BK137 := n0_; have BK138 := n1_; have HB := n2_; have BK139 := n3_; have GW139 := n4_; have GE139 := n5_; have NB137_139 := n6_; have NB139_137 := n7_; have NB138_139 := n8_; have NB139_138 := n9_; clear n0_ n1_ n2_ n3_ n4_ n5_ n6_ n7_ n8_ n9_; clear hb hbox hg))
  (try simp only [Act.put, List.setIfInBounds_toArray, List.set_cons_zero, List.set_cons_succ])
  go_cut [9] (fun v9 wc => ∃ (kq : Nat) (x9_3 : Bool), v9 = .bool x9_3 ∧ Aside0 (konst_Two.j0 kq a0 a0 x9_3 a1_0 a1_1 a2_0 a2_1 = some (r1, r2, r3)) ∧ Aside0 (kq ≤ k) ∧ Aside0 (wc.heap[gb137]? = some (.cells #[.int .i64 a1_0, .int .i32 a1_1] 23 (0, 0))) ∧ Aside0 (wc.heap[gb138]? = some (.cells #[.int .i64 a2_0, .int .i32 a2_1] 23 (0, 0))) ∧ Aside0 (wc.heap[gb139]? = some (.cells #[.int .i64 0, .int .i32 0] 23 (0, 0))) ∧ Aside0 (Below w.heap.size w wc))
  case first =>
    have H := HC4.out
    clear HC4
    by_cases c8 : a0.toList = ([43] : List UInt8)
    · rw [if_pos c8] at H
      have c8b0 : (a0.toList == ([43] : List UInt8)) = true := beq_iff_eq.mpr c8
      have c8b1 : (a0.toList != ([43] : List UInt8)) = false := bne_eq_false_iff_eq.mpr c8
      clear c8
      (first | rw [c8b0] | (simp only [i64_w, i32_w]; rw [c8b0]) | skip)
      have H' := Aside0.mk H
      clear H
      go_wp2
      go_meet
      case rel => exact ⟨_, ((a0.toList == ([43] : List UInt8))), (by first | rfl | (simp; done) | (simp [*]; done)), H', ⟨by first | omega | exact Nat.le_refl _⟩, ⟨by (with_reducible repeat (first | refine blk_drewN ?_ _ | refine blk_drew ?_ | refine blk_alloc ?_ _)); exact BK137.out⟩, ⟨by (with_reducible repeat (first | refine blk_drewN ?_ _ | refine blk_drew ?_ | refine blk_alloc ?_ _)); exact BK138.out⟩, ⟨by (with_reducible repeat (first | refine blk_drewN ?_ _ | refine blk_drew ?_ | refine blk_alloc ?_ _)); exact BK139.out⟩, ⟨by repeat (first | (with_reducible first | exact HB.out | apply below_alloc | apply pw_below_drewN | apply below_drew1 | refine below_set ?_ GE137.out | refine below_set ?_ GE138.out | refine below_set ?_ GE139.out) | exact HB.out)⟩⟩
    · rw [if_neg c8] at H
      have c8b0 : (a0.toList == ([43] : List UInt8)) = false := beq_eq_false_iff_ne.mpr c8
      have c8b1 : (a0.toList != ([43] : List UInt8)) = true := bne_iff_ne.mpr c8
      (first | rw [c8b0] | (simp only [i64_w, i32_w]; rw [c8b0]) | skip)
      by_cases c9 : a0.toList = ([45] : List UInt8)
      · rw [if_pos c9] at H
        have c9b0 : (a0.toList == ([45] : List UInt8)) = true := beq_iff_eq.mpr c9
        have c9b1 : (a0.toList != ([45] : List UInt8)) = false := bne_eq_false_iff_eq.mpr c9
        clear c9
        have H' := Aside0.mk H
        clear H
        go_wp2
        go_meet
        case rel => exact ⟨_, ((a0.toList == ([45] : List UInt8))), (by first | rfl | (simp; done) | (simp [*]; done)), H', ⟨by first | omega | exact Nat.le_refl _⟩, ⟨by (with_reducible repeat (first | refine blk_drewN ?_ _ | refine blk_drew ?_ | refine blk_alloc ?_ _)); exact BK137.out⟩, ⟨by (with_reducible repeat (first | refine blk_drewN ?_ _ | refine blk_drew ?_ | refine blk_alloc ?_ _)); exact BK138.out⟩, ⟨by (with_reducible repeat (first | refine blk_drewN ?_ _ | refine blk_drew ?_ | refine blk_alloc ?_ _)); exact BK139.out⟩, ⟨by repeat (first | (with_reducible first | exact HB.out | apply below_alloc | apply pw_below_drewN | apply below_drew1 | refine below_set ?_ GE137.out | refine below_set ?_ GE138.out | refine below_set ?_ GE139.out) | exact HB.out)⟩⟩
      · rw [if_neg c9] at H
        have c9b0 : (a0.toList == ([45] : List UInt8)) = false := beq_eq_false_iff_ne.mpr c9
        have c9b1 : (a0.toList != ([45] : List UInt8)) = true := bne_iff_ne.mpr c9
        by_cases c10 : a0.toList = ([42] : List UInt8)
        · rw [if_pos c10] at H
          have c10b0 : (a0.toList == ([42] : List UInt8)) = true := beq_iff_eq.mpr c10
          have c10b1 : (a0.toList != ([42] : List UInt8)) = false := bne_eq_false_iff_eq.mpr c10
          clear c10
          have H' := Aside0.mk H
          clear H
          go_wp2
          go_meet
          case rel => exact ⟨_, ((a0.toList == ([42] : List UInt8))), (by first | rfl | (simp; done) | (simp [*]; done)), H', ⟨by first | omega | exact Nat.le_refl _⟩, ⟨by (with_reducible repeat (first | refine blk_drewN ?_ _ | refine blk_drew ?_ | refine blk_alloc ?_ _)); exact BK137.out⟩, ⟨by (with_reducible repeat (first | refine blk_drewN ?_ _ | refine blk_drew ?_ | refine blk_alloc ?_ _)); exact BK138.out⟩, ⟨by (with_reducible repeat (first | refine blk_drewN ?_ _ | refine blk_drew ?_ | refine blk_alloc ?_ _)); exact BK139.out⟩, ⟨by repeat (first | (with_reducible first | exact HB.out | apply below_alloc | apply pw_below_drewN | apply below_drew1 | refine below_set ?_ GE137.out | refine below_set ?_ GE138.out | refine below_set ?_ GE139.out) | exact HB.out)⟩⟩
        · rw [if_neg c10] at H
          have c10b0 : (a0.toList == ([42] : List UInt8)) = false := beq_eq_false_iff_ne.mpr c10
          have c10b1 : (a0.toList != ([42] : List UInt8)) = true := bne_iff_ne.mpr c10
          by_cases c11 : a0.toList = ([68, 73, 86] : List UInt8)
          · rw [if_pos c11] at H
            have c11b0 : (a0.toList == ([68, 73, 86] : List UInt8)) = true := beq_iff_eq.mpr c11
            have c11b1 : (a0.toList != ([68, 73, 86] : List UInt8)) = false := bne_eq_false_iff_eq.mpr c11
            clear c11
            have H' := Aside0.mk H
            clear H
            go_wp2
            go_meet
            case rel => exact ⟨_, ((a0.toList == ([68, 73, 86] : List UInt8))), (by first | rfl | (simp; done) | (simp [*]; done)), H', ⟨by first | omega | exact Nat.le_refl _⟩, ⟨by (with_reducible repeat (first | refine blk_drewN ?_ _ | refine blk_drew ?_ | refine blk_alloc ?_ _)); exact BK137.out⟩, ⟨by (with_reducible repeat (first | refine blk_drewN ?_ _ | refine blk_drew ?_ | refine blk_alloc ?_ _)); exact BK138.out⟩, ⟨by (with_reducible repeat (first | refine blk_drewN ?_ _ | refine blk_drew ?_ | refine blk_alloc ?_ _)); exact BK139.out⟩, ⟨by repeat (first | (with_reducible first | exact HB.out | apply below_alloc | apply pw_below_drewN | apply below_drew1 | refine below_set ?_ GE137.out | refine below_set ?_ GE138.out | refine below_set ?_ GE139.out) | exact HB.out)⟩⟩
          · rw [if_neg c11] at H
            have c11b0 : (a0.toList == ([68, 73, 86] : List UInt8)) = false := beq_eq_false_iff_ne.mpr c11
            have c11b1 : (a0.toList != ([68, 73, 86] : List UInt8)) = true := bne_iff_ne.mpr c11
            have H' := Aside0.mk H
            clear H
            go_wp2
            go_meet
            case rel => exact ⟨_, ((a0.toList == ([77, 79, 68] : List UInt8))), (by first | rfl | (simp; done) | (simp [*]; done)), H', ⟨by first | omega | exact Nat.le_refl _⟩, ⟨by (with_reducible repeat (first | refine blk_drewN ?_ _ | refine blk_drew ?_ | refine blk_alloc ?_ _)); exact BK137.out⟩, ⟨by (with_reducible repeat (first | refine blk_drewN ?_ _ | refine blk_drew ?_ | refine blk_alloc ?_ _)); exact BK138.out⟩, ⟨by (with_reducible repeat (first | refine blk_drewN ?_ _ | refine blk_drew ?_ | refine blk_alloc ?_ _)); exact BK139.out⟩, ⟨by repeat (first | (with_reducible first | exact HB.out | apply below_alloc | apply pw_below_drewN | apply below_drew1 | refine below_set ?_ GE137.out | refine below_set ?_ GE138.out | refine below_set ?_ GE139.out) | exact HB.out)⟩⟩
  case rest =>
    clear HC4
    try clear c1
    try clear p2
    try clear c8
    try clear c8b0
    try clear c8b1
    try clear c9
    try clear c9b0
    try clear c9b1
    try clear c10
    try clear c10b0
    try clear c10b1
    try clear c11
    try clear c11b0
    try clear c11b1
    obtain ⟨kq, x9_3, rfl, HA, HJ3, BK137, BK138, BK139, HB⟩ := hcut
    cases kq with
    | zero => exact absurd HA.out (by simp [konst_Two.j0])
    | succ kj3 =>
      have H := HA.out
      clear HA
      simp only [konst_Two.j0] at H
      by_cases c12 : x9_3 = true
      · subst c12
        have H1 : ((konst_reckon.f kj3 a0 a1_0 a1_1 a2_0 a2_1).bind fun bt140 => (some (bt140.1, bt140.2.1, bt140.2.2))) = some (r1, r2, r3) := by rw [if_pos rfl] at H; exact H
        clear H
        have H := H1
        clear H1
        replace H := Option.bind_eq_some_iff.mp H
        obtain ⟨⟨t140, t141, t142⟩, A130, H⟩ := H
        replace H : (some (t140, t141, t142)) = some (r1, r2, r3) := H
        have A13 := Aside0.mk A130
        clear A130
        simp only [Option.some.injEq, Prod.mk.injEq] at H
        obtain ⟨rfl, rfl, rfl⟩ := H
        have hnb14 := NB137_138.out
        have hnc14 := NB138_137.out
        have hnb15 := NB137_139.out
        have hnc15 := NB139_137.out
        have hcz16_0 : wc.cell? ⟨gb137, 0, none⟩ = some (.int .i64 a1_0) := (blk_cell BK137.out 0).trans rfl
        have hcz16_1 : wc.cell? ⟨gb137, 1, none⟩ = some (.int .i32 a1_1) := (blk_cell BK137.out 1).trans rfl
        have hfz16_0 := blk_frozen BK137.out 0
        have hfz16_1 := blk_frozen BK137.out 1
        have hnb17 := NB138_139.out
        have hnc17 := NB139_138.out
        have hcz18_0 : wc.cell? ⟨gb138, 0, none⟩ = some (.int .i64 a2_0) := (blk_cell BK138.out 0).trans rfl
        have hcz18_1 : wc.cell? ⟨gb138, 1, none⟩ = some (.int .i32 a2_1) := (blk_cell BK138.out 1).trans rfl
        have hfz18_0 := blk_frozen BK138.out 0
        have hfz18_1 := blk_frozen BK138.out 1
        go_wp2_with (first | ((with_reducible refine gate_callee (f := 18) rfl ?_); refine goesL_ (some 18) rfl rfl Try.func18 (by kernel_rfl) rfl #[.string a0, .agg #[.int .i64 a1_0, .int .i32 a1_1], .agg #[.int .i64 a2_0, .int .i32 a2_1]] rfl (by (try simp only [List.map_toArray, List.map_cons, List.map_nil]); first | done | rfl | (simp only [List.length_drop, List.length_take]; rfl)) ?_; (with_reducible refine (konst_reckon.calls kj3 a0 a1_0 a1_1 a2_0 a2_1 t140 t141 t142 _ A13.out).mono ?_); rintro e w19 ⟨rfl, hb⟩; refine ⟨_, rfl, ?_⟩; have n0_ := Aside0.mk (blk_below (g := gb137) (o := .cells #[.int .i64 a1_0, .int .i32 a1_1] 23 (0, 0)) (by (with_reducible repeat (first | refine blk_drewN ?_ _ | refine blk_drew ?_ | refine blk_alloc ?_ _)); exact BK137.out) hb); have n1_ := Aside0.mk (blk_below (g := gb138) (o := .cells #[.int .i64 a2_0, .int .i32 a2_1] 23 (0, 0)) (by (with_reducible repeat (first | refine blk_drewN ?_ _ | refine blk_drew ?_ | refine blk_alloc ?_ _)); exact BK138.out) hb); have n2_ := Aside0.mk (blk_below (g := gb139) (o := .cells #[.int .i64 0, .int .i32 0] 23 (0, 0)) (by (with_reducible repeat (first | refine blk_drewN ?_ _ | refine blk_drew ?_ | refine blk_alloc ?_ _)); exact BK139.out) hb); have n3_ := Aside0.mk (below_step (by repeat (first | (with_reducible first | exact HB.out | apply below_alloc | apply pw_below_drewN | apply below_drew1 | refine below_set ?_ GE137.out | refine below_set ?_ GE138.out | refine below_set ?_ GE139.out) | exact HB.out)) hb); clear BK137; clear BK138; clear BK139; clear HB; have BK137 := n0_; have BK138 := n1_; have BK139 := n2_; have HB := n3_; clear n0_ n1_ n2_ n3_; (try clear hb); (try clear hb2); (try clear hk); (try clear hi); have hcz20_0 : w19.cell? ⟨gb139, 0, none⟩ = some (.int .i64 0) := (blk_cell BK139.out 0).trans rfl; have hcz20_1 : w19.cell? ⟨gb139, 1, none⟩ = some (.int .i32 0) := (blk_cell BK139.out 1).trans rfl; have hfz20_0 := blk_frozen BK139.out 0; have hfz20_1 := blk_frozen BK139.out 1))
        refine bodyPost_ret (results_ct rfl _ _ gb139 23 #[.int .i64 t140, .int .i32 t141] (0, 0) _ rfl (by (with_reducible repeat (first | refine blk_drewN ?_ _ | refine blk_drew ?_ | refine blk_alloc ?_ _)); refine blk_put (cs := #[.int .i64 t140, .int .i32 0]) ?_ 1 _ rfl; (with_reducible repeat (first | refine blk_drewN ?_ _ | refine blk_drew ?_ | refine blk_alloc ?_ _)); refine blk_put (cs := #[.int .i64 0, .int .i32 0]) ?_ 0 _ rfl; (with_reducible repeat (first | refine blk_drewN ?_ _ | refine blk_drew ?_ | refine blk_alloc ?_ _)); exact BK139.out) Try.underlying23 rfl (by kernel_rfl)) rfl ?_
        exact ⟨by first | rfl | (simp [errW_none, errW_some] <;> rfl) | (simp [*, errW_none, errW_some] <;> rfl), by repeat (first | (with_reducible first | exact HB.out | apply below_alloc | apply pw_below_drewN | apply below_drew1 | refine below_set ?_ GE137.out | refine below_set ?_ GE138.out | refine below_set ?_ GE139.out) | exact HB.out)⟩
      · replace c12 := Bool.eq_false_iff.mpr c12
        subst c12
        have H1 : (if a0.toList = ([65, 78, 68] : List UInt8) then (konst_Two.j1 kj3 a0 a0 (a0.toList == ([65, 78, 68] : List UInt8)) a1_0 a1_1 a2_0 a2_1) else (konst_Two.j1 kj3 a0 a0 (a0.toList == ([79, 82] : List UInt8)) a1_0 a1_1 a2_0 a2_1)) = some (r1, r2, r3) := by rw [if_neg (show ¬ (false = true) by decide)] at H; exact H
        clear H
        have H := H1
        clear H1
        have HC21 := Aside0.mk H
        clear H
        go_upto_if 21 with (fail)
        go_cut [21] (fun v21 wc => ∃ (kq : Nat) (x21_20 : Bool), v21 = .bool x21_20 ∧ Aside0 (konst_Two.j1 kq a0 a0 x21_20 a1_0 a1_1 a2_0 a2_1 = some (r1, r2, r3)) ∧ Aside0 (kq ≤ kj3) ∧ Aside0 (wc.heap[gb137]? = some (.cells #[.int .i64 a1_0, .int .i32 a1_1] 23 (0, 0))) ∧ Aside0 (wc.heap[gb138]? = some (.cells #[.int .i64 a2_0, .int .i32 a2_1] 23 (0, 0))) ∧ Aside0 (wc.heap[gb139]? = some (.cells #[.int .i64 0, .int .i32 0] 23 (0, 0))) ∧ Aside0 (Below w.heap.size w wc))
        case first =>
          have H := HC21.out
          clear HC21
          by_cases c22 : a0.toList = ([65, 78, 68] : List UInt8)
          · rw [if_pos c22] at H
            have c22b0 : (a0.toList == ([65, 78, 68] : List UInt8)) = true := beq_iff_eq.mpr c22
            have c22b1 : (a0.toList != ([65, 78, 68] : List UInt8)) = false := bne_eq_false_iff_eq.mpr c22
            clear c22
            (first | rw [c22b0] | (simp only [i64_w, i32_w]; rw [c22b0]) | skip)
            have H' := Aside0.mk H
            clear H
            go_wp2
            go_meet
            case rel => exact ⟨_, ((a0.toList == ([65, 78, 68] : List UInt8))), (by first | rfl | (simp; done) | (simp [*]; done)), H', ⟨by have := HJ3.out; first | omega | exact Nat.le_refl _⟩, ⟨by (with_reducible repeat (first | refine blk_drewN ?_ _ | refine blk_drew ?_ | refine blk_alloc ?_ _)); exact BK137.out⟩, ⟨by (with_reducible repeat (first | refine blk_drewN ?_ _ | refine blk_drew ?_ | refine blk_alloc ?_ _)); exact BK138.out⟩, ⟨by (with_reducible repeat (first | refine blk_drewN ?_ _ | refine blk_drew ?_ | refine blk_alloc ?_ _)); exact BK139.out⟩, ⟨by repeat (first | (with_reducible first | exact HB.out | apply below_alloc | apply pw_below_drewN | apply below_drew1 | refine below_set ?_ GE137.out | refine below_set ?_ GE138.out | refine below_set ?_ GE139.out) | exact HB.out)⟩⟩
          · rw [if_neg c22] at H
            have c22b0 : (a0.toList == ([65, 78, 68] : List UInt8)) = false := beq_eq_false_iff_ne.mpr c22
            have c22b1 : (a0.toList != ([65, 78, 68] : List UInt8)) = true := bne_iff_ne.mpr c22
            (first | rw [c22b0] | (simp only [i64_w, i32_w]; rw [c22b0]) | skip)
            have H' := Aside0.mk H
            clear H
            go_wp2
            go_meet
            case rel => exact ⟨_, ((a0.toList == ([79, 82] : List UInt8))), (by first | rfl | (simp; done) | (simp [*]; done)), H', ⟨by have := HJ3.out; first | omega | exact Nat.le_refl _⟩, ⟨by (with_reducible repeat (first | refine blk_drewN ?_ _ | refine blk_drew ?_ | refine blk_alloc ?_ _)); exact BK137.out⟩, ⟨by (with_reducible repeat (first | refine blk_drewN ?_ _ | refine blk_drew ?_ | refine blk_alloc ?_ _)); exact BK138.out⟩, ⟨by (with_reducible repeat (first | refine blk_drewN ?_ _ | refine blk_drew ?_ | refine blk_alloc ?_ _)); exact BK139.out⟩, ⟨by repeat (first | (with_reducible first | exact HB.out | apply below_alloc | apply pw_below_drewN | apply below_drew1 | refine below_set ?_ GE137.out | refine below_set ?_ GE138.out | refine below_set ?_ GE139.out) | exact HB.out)⟩⟩
        case rest =>
          clear HC21
          try clear c1
          try clear c2
          try clear p2
          try clear c8
          try clear c8b0
          try clear c8b1
          try clear c9
          try clear c9b0
          try clear c9b1
          try clear c10
          try clear c10b0
          try clear c10b1
          try clear c11
          try clear c11b0
          try clear c11b1
          try clear c12
          try clear c14
          try clear c15
          try clear c17
          try clear c18
          try clear c22
          try clear c22b0
          try clear c22b1
          try clear hcz16_0
          try clear hcz16_1
          try clear hcz18_0
          try clear hcz18_1
          try clear hcz20_0
          try clear hcz20_1
          try clear hfz16_0
          try clear hfz16_1
          try clear hfz18_0
          try clear hfz18_1
          try clear hfz20_0
          try clear hfz20_1
          try clear p2
          obtain ⟨kq, x21_20, rfl, HA, HJ20, BK137, BK138, BK139, HB⟩ := hcut
          cases kq with
          | zero => exact absurd HA.out (by simp [konst_Two.j1])
          | succ kj20 =>
            have H := HA.out
            clear HA
            simp only [konst_Two.j1] at H
            by_cases c23 : x21_20 = true
            · subst c23
              have H1 : (if a1_0 = 2 then (konst_Two.j2 kj20 a0 (a2_0 != 2) a1_0 a1_1 a2_0 a2_1) else (konst_Two.j2 kj20 a0 true a1_0 a1_1 a2_0 a2_1)) = some (r1, r2, r3) := by rw [if_pos rfl] at H; exact H
              clear H
              have H := H1
              clear H1
              have HC24 := Aside0.mk H
              clear H
              go_upto_region 10 with (fail)
              go_cut [31] (fun v31 wc => ∃ (kq : Nat) (x31_23 : Bool), v31 = .bool x31_23 ∧ Aside0 (konst_Two.j2 kq a0 x31_23 a1_0 a1_1 a2_0 a2_1 = some (r1, r2, r3)) ∧ Aside0 (kq ≤ kj20) ∧ Aside0 (wc.heap[gb137]? = some (.cells #[.int .i64 a1_0, .int .i32 a1_1] 23 (0, 0))) ∧ Aside0 (wc.heap[gb138]? = some (.cells #[.int .i64 a2_0, .int .i32 a2_1] 23 (0, 0))) ∧ Aside0 (wc.heap[gb139]? = some (.cells #[.int .i64 0, .int .i32 0] 23 (0, 0))) ∧ Aside0 (Below w.heap.size w wc))
              case first =>
                have H := HC24.out
                clear HC24
                by_cases c25 : a1_0 = 2
                · rw [if_pos c25] at H
                  have c25b0 : (a1_0 == 2) = true := beq_iff_eq.mpr c25
                  have c25b1 : (a1_0 != 2) = false := bne_eq_false_iff_eq.mpr c25
                  clear c25
                  (first | rw [c25b0] | (simp only [i64_w, i32_w]; rw [c25b0]) | skip)
                  have H' := Aside0.mk H
                  clear H
                  have hnb26 := NB137_138.out
                  have hnc26 := NB138_137.out
                  have hnb27 := NB137_139.out
                  have hnc27 := NB139_137.out
                  have hcz28_0 : wc.cell? ⟨gb137, 0, none⟩ = some (.int .i64 a1_0) := (blk_cell BK137.out 0).trans rfl
                  have hcz28_1 : wc.cell? ⟨gb137, 1, none⟩ = some (.int .i32 a1_1) := (blk_cell BK137.out 1).trans rfl
                  have hfz28_0 := blk_frozen BK137.out 0
                  have hfz28_1 := blk_frozen BK137.out 1
                  have hnb29 := NB138_139.out
                  have hnc29 := NB139_138.out
                  have hcz30_0 : wc.cell? ⟨gb138, 0, none⟩ = some (.int .i64 a2_0) := (blk_cell BK138.out 0).trans rfl
                  have hcz30_1 : wc.cell? ⟨gb138, 1, none⟩ = some (.int .i32 a2_1) := (blk_cell BK138.out 1).trans rfl
                  have hfz30_0 := blk_frozen BK138.out 0
                  have hfz30_1 := blk_frozen BK138.out 1
                  go_wp2
                  go_meet
                  case rel => exact ⟨_, ((a2_0 != 2)), (by first | rfl | (simp; done) | (simp [*]; done)), H', ⟨by have := HJ3.out; have := HJ20.out; first | omega | exact Nat.le_refl _⟩, ⟨by (with_reducible repeat (first | refine blk_drewN ?_ _ | refine blk_drew ?_ | refine blk_alloc ?_ _)); exact BK137.out⟩, ⟨by (with_reducible repeat (first | refine blk_drewN ?_ _ | refine blk_drew ?_ | refine blk_alloc ?_ _)); exact BK138.out⟩, ⟨by (with_reducible repeat (first | refine blk_drewN ?_ _ | refine blk_drew ?_ | refine blk_alloc ?_ _)); exact BK139.out⟩, ⟨by repeat (first | (with_reducible first | exact HB.out | apply below_alloc | apply pw_below_drewN | apply below_drew1 | refine below_set ?_ GE137.out | refine below_set ?_ GE138.out | refine below_set ?_ GE139.out) | exact HB.out)⟩⟩
                · rw [if_neg c25] at H
                  have c25b0 : (a1_0 == 2) = false := beq_eq_false_iff_ne.mpr c25
                  have c25b1 : (a1_0 != 2) = true := bne_iff_ne.mpr c25
                  (first | rw [c25b0] | (simp only [i64_w, i32_w]; rw [c25b0]) | skip)
                  have H' := Aside0.mk H
                  clear H
                  have hnb31 := NB137_138.out
                  have hnc31 := NB138_137.out
                  have hnb32 := NB137_139.out
                  have hnc32 := NB139_137.out
                  have hcz33_0 : wc.cell? ⟨gb137, 0, none⟩ = some (.int .i64 a1_0) := (blk_cell BK137.out 0).trans rfl
                  have hcz33_1 : wc.cell? ⟨gb137, 1, none⟩ = some (.int .i32 a1_1) := (blk_cell BK137.out 1).trans rfl
                  have hfz33_0 := blk_frozen BK137.out 0
                  have hfz33_1 := blk_frozen BK137.out 1
                  go_wp2
                  go_meet
                  case rel => exact ⟨_, (true), (by first | rfl | (simp; done) | (simp [*]; done)), H', ⟨by have := HJ3.out; have := HJ20.out; first | omega | exact Nat.le_refl _⟩, ⟨by (with_reducible repeat (first | refine blk_drewN ?_ _ | refine blk_drew ?_ | refine blk_alloc ?_ _)); exact BK137.out⟩, ⟨by (with_reducible repeat (first | refine blk_drewN ?_ _ | refine blk_drew ?_ | refine blk_alloc ?_ _)); exact BK138.out⟩, ⟨by (with_reducible repeat (first | refine blk_drewN ?_ _ | refine blk_drew ?_ | refine blk_alloc ?_ _)); exact BK139.out⟩, ⟨by repeat (first | (with_reducible first | exact HB.out | apply below_alloc | apply pw_below_drewN | apply below_drew1 | refine below_set ?_ GE137.out | refine below_set ?_ GE138.out | refine below_set ?_ GE139.out) | exact HB.out)⟩⟩
              case rest =>
                clear HC24
                try clear c1
                try clear c2
                try clear p2
                try clear c3
                try clear c8
                try clear c8b0
                try clear c8b1
                try clear c9
                try clear c9b0
                try clear c9b1
                try clear c10
                try clear c10b0
                try clear c10b1
                try clear c11
                try clear c11b0
                try clear c11b1
                try clear c12
                try clear c14
                try clear c15
                try clear c17
                try clear c18
                try clear c22
                try clear c22b0
                try clear c22b1
                try clear c23
                try clear c25
                try clear c25b0
                try clear c25b1
                try clear c26
                try clear c27
                try clear c29
                try clear c31
                try clear c32
                try clear hcz16_0
                try clear hcz16_1
                try clear hcz18_0
                try clear hcz18_1
                try clear hcz20_0
                try clear hcz20_1
                try clear hcz28_0
                try clear hcz28_1
                try clear hcz30_0
                try clear hcz30_1
                try clear hcz33_0
                try clear hcz33_1
                try clear hfz16_0
                try clear hfz16_1
                try clear hfz18_0
                try clear hfz18_1
                try clear hfz20_0
                try clear hfz20_1
                try clear hfz28_0
                try clear hfz28_1
                try clear hfz30_0
                try clear hfz30_1
                try clear hfz33_0
                try clear hfz33_1
                try clear p2
                obtain ⟨kq, x31_23, rfl, HA, HJ23, BK137, BK138, BK139, HB⟩ := hcut
                cases kq with
                | zero => exact absurd HA.out (by simp [konst_Two.j2])
                | succ kj23 =>
                  have H := HA.out
                  clear HA
                  simp only [konst_Two.j2] at H
                  by_cases c34 : x31_23 = true
                  · subst c34
                    have H1 : (some (0, 0, 91)) = some (r1, r2, r3) := by rw [if_pos rfl] at H; exact H
                    clear H
                    have H := H1
                    clear H1
                    simp only [Option.some.injEq, Prod.mk.injEq] at H
                    obtain ⟨rfl, rfl, rfl⟩ := H
                    have hnb35 := NB139_137.out
                    have hnc35 := NB137_139.out
                    have hnb36 := NB139_138.out
                    have hnc36 := NB138_139.out
                    have hcz37_0 : wc.cell? ⟨gb139, 0, none⟩ = some (.int .i64 0) := (blk_cell BK139.out 0).trans rfl
                    have hcz37_1 : wc.cell? ⟨gb139, 1, none⟩ = some (.int .i32 0) := (blk_cell BK139.out 1).trans rfl
                    have hfz37_0 := blk_frozen BK139.out 0
                    have hfz37_1 := blk_frozen BK139.out 1
                    go_wp2
                    refine bodyPost_ret (results_ct rfl _ _ gb139 23 #[.int .i64 0, .int .i32 0] (0, 0) _ rfl (by (with_reducible repeat (first | refine blk_drewN ?_ _ | refine blk_drew ?_ | refine blk_alloc ?_ _)); refine blk_put (cs := #[.int .i64 0, .int .i32 0]) ?_ 1 _ rfl; (with_reducible repeat (first | refine blk_drewN ?_ _ | refine blk_drew ?_ | refine blk_alloc ?_ _)); refine blk_put (cs := #[.int .i64 0, .int .i32 0]) ?_ 0 _ rfl; (with_reducible repeat (first | refine blk_drewN ?_ _ | refine blk_drew ?_ | refine blk_alloc ?_ _)); exact BK139.out) Try.underlying23 rfl (by kernel_rfl)) rfl ?_
                    exact ⟨by first | rfl | (simp [errW_none, errW_some] <;> rfl) | (simp [*, errW_none, errW_some] <;> rfl), by repeat (first | (with_reducible first | exact HB.out | apply below_alloc | apply pw_below_drewN | apply below_drew1 | refine below_set ?_ GE137.out | refine below_set ?_ GE138.out | refine below_set ?_ GE139.out) | exact HB.out)⟩
                  · replace c34 := Bool.eq_false_iff.mpr c34
                    subst c34
                    have H1 : (if a0.toList = ([65, 78, 68] : List UInt8) then (if a1_1 = 0 then ((konst_truth.f false).bind fun bt143 => (some (bt143.1, bt143.2, 0))) else ((konst_truth.f (a2_1 != 0)).bind fun bt145 => (some (bt145.1, bt145.2, 0)))) else (if a1_1 = 0 then ((konst_truth.f (a2_1 != 0)).bind fun bt147 => (some (bt147.1, bt147.2, 0))) else ((konst_truth.f true).bind fun bt149 => (some (bt149.1, bt149.2, 0))))) = some (r1, r2, r3) := by rw [if_neg (show ¬ (false = true) by decide)] at H; exact H
                    clear H
                    have H := H1
                    clear H1
                    by_cases c38 : a0.toList = ([65, 78, 68] : List UInt8)
                    · rw [if_pos c38] at H
                      have c38b0 : (a0.toList == ([65, 78, 68] : List UInt8)) = true := beq_iff_eq.mpr c38
                      have c38b1 : (a0.toList != ([65, 78, 68] : List UInt8)) = false := bne_eq_false_iff_eq.mpr c38
                      clear c38
                      by_cases c39 : a1_1 = 0
                      · rw [if_pos c39] at H
                        have c39b0 : (a1_1 == 0) = true := beq_iff_eq.mpr c39
                        have c39b1 : (a1_1 != 0) = false := bne_eq_false_iff_eq.mpr c39
                        clear c39
                        replace H := Option.bind_eq_some_iff.mp H
                        obtain ⟨⟨t143, t144⟩, A400, H⟩ := H
                        replace H : (some (t143, t144, 0)) = some (r1, r2, r3) := H
                        have A40 := Aside0.mk A400
                        clear A400
                        simp only [Option.some.injEq, Prod.mk.injEq] at H
                        obtain ⟨rfl, rfl, rfl⟩ := H
                        have hnb41 := NB137_138.out
                        have hnc41 := NB138_137.out
                        have hnb42 := NB137_139.out
                        have hnc42 := NB139_137.out
                        have hcz43_0 : wc.cell? ⟨gb137, 0, none⟩ = some (.int .i64 a1_0) := (blk_cell BK137.out 0).trans rfl
                        have hcz43_1 : wc.cell? ⟨gb137, 1, none⟩ = some (.int .i32 a1_1) := (blk_cell BK137.out 1).trans rfl
                        have hfz43_0 := blk_frozen BK137.out 0
                        have hfz43_1 := blk_frozen BK137.out 1
                        go_wp2_with (first | ((with_reducible refine gate_callee (f := 19) rfl ?_); refine goesL_ (some 43) rfl rfl Try.func19 (by kernel_rfl) rfl #[.bool false] rfl (by (try simp only [List.map_toArray, List.map_cons, List.map_nil]); first | done | rfl | (simp only [List.length_drop, List.length_take]; rfl)) ?_; (with_reducible refine (konst_truth.calls false t143 t144 _ A40.out).mono ?_); rintro e w44 ⟨rfl, hb⟩; refine ⟨_, rfl, ?_⟩; have n0_ := Aside0.mk (blk_below (g := gb137) (o := .cells #[.int .i64 a1_0, .int .i32 a1_1] 23 (0, 0)) (by (with_reducible repeat (first | refine blk_drewN ?_ _ | refine blk_drew ?_ | refine blk_alloc ?_ _)); exact BK137.out) hb); have n1_ := Aside0.mk (blk_below (g := gb138) (o := .cells #[.int .i64 a2_0, .int .i32 a2_1] 23 (0, 0)) (by (with_reducible repeat (first | refine blk_drewN ?_ _ | refine blk_drew ?_ | refine blk_alloc ?_ _)); exact BK138.out) hb); have n2_ := Aside0.mk (blk_below (g := gb139) (o := .cells #[.int .i64 0, .int .i32 0] 23 (0, 0)) (by (with_reducible repeat (first | refine blk_drewN ?_ _ | refine blk_drew ?_ | refine blk_alloc ?_ _)); exact BK139.out) hb); have n3_ := Aside0.mk (below_step (by repeat (first | (with_reducible first | exact HB.out | apply below_alloc | apply pw_below_drewN | apply below_drew1 | refine below_set ?_ GE137.out | refine below_set ?_ GE138.out | refine below_set ?_ GE139.out) | exact HB.out)) hb); clear BK137; clear BK138; clear BK139; clear HB; have BK137 := n0_; have BK138 := n1_; have BK139 := n2_; have HB := n3_; clear n0_ n1_ n2_ n3_; (try clear hb); (try clear hb2); (try clear hk); (try clear hi); have hnb45 := NB139_138.out; have hnc45 := NB138_139.out; have hcz46_0 : w44.cell? ⟨gb139, 0, none⟩ = some (.int .i64 0) := (blk_cell BK139.out 0).trans rfl; have hcz46_1 : w44.cell? ⟨gb139, 1, none⟩ = some (.int .i32 0) := (blk_cell BK139.out 1).trans rfl; have hfz46_0 := blk_frozen BK139.out 0; have hfz46_1 := blk_frozen BK139.out 1))
                        refine bodyPost_ret (results_ct rfl _ _ gb139 23 #[.int .i64 t143, .int .i32 t144] (0, 0) _ rfl (by (with_reducible repeat (first | refine blk_drewN ?_ _ | refine blk_drew ?_ | refine blk_alloc ?_ _)); refine blk_put (cs := #[.int .i64 t143, .int .i32 0]) ?_ 1 _ rfl; (with_reducible repeat (first | refine blk_drewN ?_ _ | refine blk_drew ?_ | refine blk_alloc ?_ _)); refine blk_put (cs := #[.int .i64 0, .int .i32 0]) ?_ 0 _ rfl; (with_reducible repeat (first | refine blk_drewN ?_ _ | refine blk_drew ?_ | refine blk_alloc ?_ _)); exact BK139.out) Try.underlying23 rfl (by kernel_rfl)) rfl ?_
                        exact ⟨by first | rfl | (simp [errW_none, errW_some] <;> rfl) | (simp [*, errW_none, errW_some] <;> rfl), by repeat (first | (with_reducible first | exact HB.out | apply below_alloc | apply pw_below_drewN | apply below_drew1 | refine below_set ?_ GE137.out | refine below_set ?_ GE138.out | refine below_set ?_ GE139.out) | exact HB.out)⟩
                      · rw [if_neg c39] at H
                        have c39b0 : (a1_1 == 0) = false := beq_eq_false_iff_ne.mpr c39
                        have c39b1 : (a1_1 != 0) = true := bne_iff_ne.mpr c39
                        replace H := Option.bind_eq_some_iff.mp H
                        obtain ⟨⟨t145, t146⟩, A470, H⟩ := H
                        replace H : (some (t145, t146, 0)) = some (r1, r2, r3) := H
                        have A47 := Aside0.mk A470
                        clear A470
                        simp only [Option.some.injEq, Prod.mk.injEq] at H
                        obtain ⟨rfl, rfl, rfl⟩ := H
                        have hnb48 := NB137_138.out
                        have hnc48 := NB138_137.out
                        have hnb49 := NB137_139.out
                        have hnc49 := NB139_137.out
                        have hcz50_0 : wc.cell? ⟨gb137, 0, none⟩ = some (.int .i64 a1_0) := (blk_cell BK137.out 0).trans rfl
                        have hcz50_1 : wc.cell? ⟨gb137, 1, none⟩ = some (.int .i32 a1_1) := (blk_cell BK137.out 1).trans rfl
                        have hfz50_0 := blk_frozen BK137.out 0
                        have hfz50_1 := blk_frozen BK137.out 1
                        have hnb51 := NB138_139.out
                        have hnc51 := NB139_138.out
                        have hcz52_0 : wc.cell? ⟨gb138, 0, none⟩ = some (.int .i64 a2_0) := (blk_cell BK138.out 0).trans rfl
                        have hcz52_1 : wc.cell? ⟨gb138, 1, none⟩ = some (.int .i32 a2_1) := (blk_cell BK138.out 1).trans rfl
                        have hfz52_0 := blk_frozen BK138.out 0
                        have hfz52_1 := blk_frozen BK138.out 1
                        go_wp2_with (first | ((with_reducible refine gate_callee (f := 19) rfl ?_); refine goesL_ (some 43) rfl rfl Try.func19 (by kernel_rfl) rfl #[.bool (a2_1 != 0)] rfl (by (try simp only [List.map_toArray, List.map_cons, List.map_nil]); first | done | rfl | (simp only [List.length_drop, List.length_take]; rfl)) ?_; (with_reducible refine (konst_truth.calls (a2_1 != 0) t145 t146 _ A47.out).mono ?_); rintro e w53 ⟨rfl, hb⟩; refine ⟨_, rfl, ?_⟩; have n0_ := Aside0.mk (blk_below (g := gb137) (o := .cells #[.int .i64 a1_0, .int .i32 a1_1] 23 (0, 0)) (by (with_reducible repeat (first | refine blk_drewN ?_ _ | refine blk_drew ?_ | refine blk_alloc ?_ _)); exact BK137.out) hb); have n1_ := Aside0.mk (blk_below (g := gb138) (o := .cells #[.int .i64 a2_0, .int .i32 a2_1] 23 (0, 0)) (by (with_reducible repeat (first | refine blk_drewN ?_ _ | refine blk_drew ?_ | refine blk_alloc ?_ _)); exact BK138.out) hb); have n2_ := Aside0.mk (blk_below (g := gb139) (o := .cells #[.int .i64 0, .int .i32 0] 23 (0, 0)) (by (with_reducible repeat (first | refine blk_drewN ?_ _ | refine blk_drew ?_ | refine blk_alloc ?_ _)); exact BK139.out) hb); have n3_ := Aside0.mk (below_step (by repeat (first | (with_reducible first | exact HB.out | apply below_alloc | apply pw_below_drewN | apply below_drew1 | refine below_set ?_ GE137.out | refine below_set ?_ GE138.out | refine below_set ?_ GE139.out) | exact HB.out)) hb); clear BK137; clear BK138; clear BK139; clear HB; have BK137 := n0_; have BK138 := n1_; have BK139 := n2_; have HB := n3_; clear n0_ n1_ n2_ n3_; (try clear hb); (try clear hb2); (try clear hk); (try clear hi); have hcz54_0 : w53.cell? ⟨gb139, 0, none⟩ = some (.int .i64 0) := (blk_cell BK139.out 0).trans rfl; have hcz54_1 : w53.cell? ⟨gb139, 1, none⟩ = some (.int .i32 0) := (blk_cell BK139.out 1).trans rfl; have hfz54_0 := blk_frozen BK139.out 0; have hfz54_1 := blk_frozen BK139.out 1))
                        refine bodyPost_ret (results_ct rfl _ _ gb139 23 #[.int .i64 t145, .int .i32 t146] (0, 0) _ rfl (by (with_reducible repeat (first | refine blk_drewN ?_ _ | refine blk_drew ?_ | refine blk_alloc ?_ _)); refine blk_put (cs := #[.int .i64 t145, .int .i32 0]) ?_ 1 _ rfl; (with_reducible repeat (first | refine blk_drewN ?_ _ | refine blk_drew ?_ | refine blk_alloc ?_ _)); refine blk_put (cs := #[.int .i64 0, .int .i32 0]) ?_ 0 _ rfl; (with_reducible repeat (first | refine blk_drewN ?_ _ | refine blk_drew ?_ | refine blk_alloc ?_ _)); exact BK139.out) Try.underlying23 rfl (by kernel_rfl)) rfl ?_
                        exact ⟨by first | rfl | (simp [errW_none, errW_some] <;> rfl) | (simp [*, errW_none, errW_some] <;> rfl), by repeat (first | (with_reducible first | exact HB.out | apply below_alloc | apply pw_below_drewN | apply below_drew1 | refine below_set ?_ GE137.out | refine below_set ?_ GE138.out | refine below_set ?_ GE139.out) | exact HB.out)⟩
                    · rw [if_neg c38] at H
                      have c38b0 : (a0.toList == ([65, 78, 68] : List UInt8)) = false := beq_eq_false_iff_ne.mpr c38
                      have c38b1 : (a0.toList != ([65, 78, 68] : List UInt8)) = true := bne_iff_ne.mpr c38
                      by_cases c55 : a1_1 = 0
                      · rw [if_pos c55] at H
                        have c55b0 : (a1_1 == 0) = true := beq_iff_eq.mpr c55
                        have c55b1 : (a1_1 != 0) = false := bne_eq_false_iff_eq.mpr c55
                        clear c55
                        replace H := Option.bind_eq_some_iff.mp H
                        obtain ⟨⟨t147, t148⟩, A560, H⟩ := H
                        replace H : (some (t147, t148, 0)) = some (r1, r2, r3) := H
                        have A56 := Aside0.mk A560
                        clear A560
                        simp only [Option.some.injEq, Prod.mk.injEq] at H
                        obtain ⟨rfl, rfl, rfl⟩ := H
                        have hnb57 := NB137_138.out
                        have hnc57 := NB138_137.out
                        have hnb58 := NB137_139.out
                        have hnc58 := NB139_137.out
                        have hcz59_0 : wc.cell? ⟨gb137, 0, none⟩ = some (.int .i64 a1_0) := (blk_cell BK137.out 0).trans rfl
                        have hcz59_1 : wc.cell? ⟨gb137, 1, none⟩ = some (.int .i32 a1_1) := (blk_cell BK137.out 1).trans rfl
                        have hfz59_0 := blk_frozen BK137.out 0
                        have hfz59_1 := blk_frozen BK137.out 1
                        have hnb60 := NB138_139.out
                        have hnc60 := NB139_138.out
                        have hcz61_0 : wc.cell? ⟨gb138, 0, none⟩ = some (.int .i64 a2_0) := (blk_cell BK138.out 0).trans rfl
                        have hcz61_1 : wc.cell? ⟨gb138, 1, none⟩ = some (.int .i32 a2_1) := (blk_cell BK138.out 1).trans rfl
                        have hfz61_0 := blk_frozen BK138.out 0
                        have hfz61_1 := blk_frozen BK138.out 1
                        go_wp2_with (first | ((with_reducible refine gate_callee (f := 19) rfl ?_); refine goesL_ (some 52) rfl rfl Try.func19 (by kernel_rfl) rfl #[.bool (a2_1 != 0)] rfl (by (try simp only [List.map_toArray, List.map_cons, List.map_nil]); first | done | rfl | (simp only [List.length_drop, List.length_take]; rfl)) ?_; (with_reducible refine (konst_truth.calls (a2_1 != 0) t147 t148 _ A56.out).mono ?_); rintro e w62 ⟨rfl, hb⟩; refine ⟨_, rfl, ?_⟩; have n0_ := Aside0.mk (blk_below (g := gb137) (o := .cells #[.int .i64 a1_0, .int .i32 a1_1] 23 (0, 0)) (by (with_reducible repeat (first | refine blk_drewN ?_ _ | refine blk_drew ?_ | refine blk_alloc ?_ _)); exact BK137.out) hb); have n1_ := Aside0.mk (blk_below (g := gb138) (o := .cells #[.int .i64 a2_0, .int .i32 a2_1] 23 (0, 0)) (by (with_reducible repeat (first | refine blk_drewN ?_ _ | refine blk_drew ?_ | refine blk_alloc ?_ _)); exact BK138.out) hb); have n2_ := Aside0.mk (blk_below (g := gb139) (o := .cells #[.int .i64 0, .int .i32 0] 23 (0, 0)) (by (with_reducible repeat (first | refine blk_drewN ?_ _ | refine blk_drew ?_ | refine blk_alloc ?_ _)); exact BK139.out) hb); have n3_ := Aside0.mk (below_step (by repeat (first | (with_reducible first | exact HB.out | apply below_alloc | apply pw_below_drewN | apply below_drew1 | refine below_set ?_ GE137.out | refine below_set ?_ GE138.out | refine below_set ?_ GE139.out) | exact HB.out)) hb); clear BK137; clear BK138; clear BK139; clear HB; have BK137 := n0_; have BK138 := n1_; have BK139 := n2_; have HB := n3_; clear n0_ n1_ n2_ n3_; (try clear hb); (try clear hb2); (try clear hk); (try clear hi); have hcz63_0 : w62.cell? ⟨gb139, 0, none⟩ = some (.int .i64 0) := (blk_cell BK139.out 0).trans rfl; have hcz63_1 : w62.cell? ⟨gb139, 1, none⟩ = some (.int .i32 0) := (blk_cell BK139.out 1).trans rfl; have hfz63_0 := blk_frozen BK139.out 0; have hfz63_1 := blk_frozen BK139.out 1))
                        refine bodyPost_ret (results_ct rfl _ _ gb139 23 #[.int .i64 t147, .int .i32 t148] (0, 0) _ rfl (by (with_reducible repeat (first | refine blk_drewN ?_ _ | refine blk_drew ?_ | refine blk_alloc ?_ _)); refine blk_put (cs := #[.int .i64 t147, .int .i32 0]) ?_ 1 _ rfl; (with_reducible repeat (first | refine blk_drewN ?_ _ | refine blk_drew ?_ | refine blk_alloc ?_ _)); refine blk_put (cs := #[.int .i64 0, .int .i32 0]) ?_ 0 _ rfl; (with_reducible repeat (first | refine blk_drewN ?_ _ | refine blk_drew ?_ | refine blk_alloc ?_ _)); exact BK139.out) Try.underlying23 rfl (by kernel_rfl)) rfl ?_
                        exact ⟨by first | rfl | (simp [errW_none, errW_some] <;> rfl) | (simp [*, errW_none, errW_some] <;> rfl), by repeat (first | (with_reducible first | exact HB.out | apply below_alloc | apply pw_below_drewN | apply below_drew1 | refine below_set ?_ GE137.out | refine below_set ?_ GE138.out | refine below_set ?_ GE139.out) | exact HB.out)⟩
                      · rw [if_neg c55] at H
                        have c55b0 : (a1_1 == 0) = false := beq_eq_false_iff_ne.mpr c55
                        have c55b1 : (a1_1 != 0) = true := bne_iff_ne.mpr c55
                        replace H := Option.bind_eq_some_iff.mp H
                        obtain ⟨⟨t149, t150⟩, A640, H⟩ := H
                        replace H : (some (t149, t150, 0)) = some (r1, r2, r3) := H
                        have A64 := Aside0.mk A640
                        clear A640
                        simp only [Option.some.injEq, Prod.mk.injEq] at H
                        obtain ⟨rfl, rfl, rfl⟩ := H
                        have hnb65 := NB137_138.out
                        have hnc65 := NB138_137.out
                        have hnb66 := NB137_139.out
                        have hnc66 := NB139_137.out
                        have hcz67_0 : wc.cell? ⟨gb137, 0, none⟩ = some (.int .i64 a1_0) := (blk_cell BK137.out 0).trans rfl
                        have hcz67_1 : wc.cell? ⟨gb137, 1, none⟩ = some (.int .i32 a1_1) := (blk_cell BK137.out 1).trans rfl
                        have hfz67_0 := blk_frozen BK137.out 0
                        have hfz67_1 := blk_frozen BK137.out 1
                        go_wp2_with (first | ((with_reducible refine gate_callee (f := 19) rfl ?_); refine goesL_ (some 52) rfl rfl Try.func19 (by kernel_rfl) rfl #[.bool true] rfl (by (try simp only [List.map_toArray, List.map_cons, List.map_nil]); first | done | rfl | (simp only [List.length_drop, List.length_take]; rfl)) ?_; (with_reducible refine (konst_truth.calls true t149 t150 _ A64.out).mono ?_); rintro e w68 ⟨rfl, hb⟩; refine ⟨_, rfl, ?_⟩; have n0_ := Aside0.mk (blk_below (g := gb137) (o := .cells #[.int .i64 a1_0, .int .i32 a1_1] 23 (0, 0)) (by (with_reducible repeat (first | refine blk_drewN ?_ _ | refine blk_drew ?_ | refine blk_alloc ?_ _)); exact BK137.out) hb); have n1_ := Aside0.mk (blk_below (g := gb138) (o := .cells #[.int .i64 a2_0, .int .i32 a2_1] 23 (0, 0)) (by (with_reducible repeat (first | refine blk_drewN ?_ _ | refine blk_drew ?_ | refine blk_alloc ?_ _)); exact BK138.out) hb); have n2_ := Aside0.mk (blk_below (g := gb139) (o := .cells #[.int .i64 0, .int .i32 0] 23 (0, 0)) (by (with_reducible repeat (first | refine blk_drewN ?_ _ | refine blk_drew ?_ | refine blk_alloc ?_ _)); exact BK139.out) hb); have n3_ := Aside0.mk (below_step (by repeat (first | (with_reducible first | exact HB.out | apply below_alloc | apply pw_below_drewN | apply below_drew1 | refine below_set ?_ GE137.out | refine below_set ?_ GE138.out | refine below_set ?_ GE139.out) | exact HB.out)) hb); clear BK137; clear BK138; clear BK139; clear HB; have BK137 := n0_; have BK138 := n1_; have BK139 := n2_; have HB := n3_; clear n0_ n1_ n2_ n3_; (try clear hb); (try clear hb2); (try clear hk); (try clear hi); have hnb69 := NB139_138.out; have hnc69 := NB138_139.out; have hcz70_0 : w68.cell? ⟨gb139, 0, none⟩ = some (.int .i64 0) := (blk_cell BK139.out 0).trans rfl; have hcz70_1 : w68.cell? ⟨gb139, 1, none⟩ = some (.int .i32 0) := (blk_cell BK139.out 1).trans rfl; have hfz70_0 := blk_frozen BK139.out 0; have hfz70_1 := blk_frozen BK139.out 1))
                        refine bodyPost_ret (results_ct rfl _ _ gb139 23 #[.int .i64 t149, .int .i32 t150] (0, 0) _ rfl (by (with_reducible repeat (first | refine blk_drewN ?_ _ | refine blk_drew ?_ | refine blk_alloc ?_ _)); refine blk_put (cs := #[.int .i64 t149, .int .i32 0]) ?_ 1 _ rfl; (with_reducible repeat (first | refine blk_drewN ?_ _ | refine blk_drew ?_ | refine blk_alloc ?_ _)); refine blk_put (cs := #[.int .i64 0, .int .i32 0]) ?_ 0 _ rfl; (with_reducible repeat (first | refine blk_drewN ?_ _ | refine blk_drew ?_ | refine blk_alloc ?_ _)); exact BK139.out) Try.underlying23 rfl (by kernel_rfl)) rfl ?_
                        exact ⟨by first | rfl | (simp [errW_none, errW_some] <;> rfl) | (simp [*, errW_none, errW_some] <;> rfl), by repeat (first | (with_reducible first | exact HB.out | apply below_alloc | apply pw_below_drewN | apply below_drew1 | refine below_set ?_ GE137.out | refine below_set ?_ GE138.out | refine below_set ?_ GE139.out) | exact HB.out)⟩
            · replace c23 := Bool.eq_false_iff.mpr c23
              subst c23
              have H1 : (if a0.toList = ([61] : List UInt8) then ((konst_compare.f kj20 a0 a1_0 a1_1 a2_0 a2_1).bind fun bt151 => (some (bt151.1, bt151.2.1, bt151.2.2))) else (if a0.toList = ([35] : List UInt8) then ((konst_compare.f kj20 a0 a1_0 a1_1 a2_0 a2_1).bind fun bt154 => (some (bt154.1, bt154.2.1, bt154.2.2))) else (if a0.toList = ([60] : List UInt8) then ((konst_compare.f kj20 a0 a1_0 a1_1 a2_0 a2_1).bind fun bt157 => (some (bt157.1, bt157.2.1, bt157.2.2))) else (if a0.toList = ([60, 61] : List UInt8) then ((konst_compare.f kj20 a0 a1_0 a1_1 a2_0 a2_1).bind fun bt160 => (some (bt160.1, bt160.2.1, bt160.2.2))) else (if a0.toList = ([62] : List UInt8) then ((konst_compare.f kj20 a0 a1_0 a1_1 a2_0 a2_1).bind fun bt163 => (some (bt163.1, bt163.2.1, bt163.2.2))) else (if a0.toList = ([62, 61] : List UInt8) then ((konst_compare.f kj20 a0 a1_0 a1_1 a2_0 a2_1).bind fun bt166 => (some (bt166.1, bt166.2.1, bt166.2.2))) else (some (0, 0, 110)))))))) = some (r1, r2, r3) := by rw [if_neg (show ¬ (false = true) by decide)] at H; exact H
              clear H
              have H := H1
              clear H1
              by_cases c71 : a0.toList = ([61] : List UInt8)
              · rw [if_pos c71] at H
                have c71b0 : (a0.toList == ([61] : List UInt8)) = true := beq_iff_eq.mpr c71
                have c71b1 : (a0.toList != ([61] : List UInt8)) = false := bne_eq_false_iff_eq.mpr c71
                clear c71
                replace H := Option.bind_eq_some_iff.mp H
                obtain ⟨⟨t151, t152, t153⟩, A720, H⟩ := H
                replace H : (some (t151, t152, t153)) = some (r1, r2, r3) := H
                have A72 := Aside0.mk A720
                clear A720
                simp only [Option.some.injEq, Prod.mk.injEq] at H
                obtain ⟨rfl, rfl, rfl⟩ := H
                have hnb73 := NB137_138.out
                have hnc73 := NB138_137.out
                have hnb74 := NB137_139.out
                have hnc74 := NB139_137.out
                have hcz75_0 : wc.cell? ⟨gb137, 0, none⟩ = some (.int .i64 a1_0) := (blk_cell BK137.out 0).trans rfl
                have hcz75_1 : wc.cell? ⟨gb137, 1, none⟩ = some (.int .i32 a1_1) := (blk_cell BK137.out 1).trans rfl
                have hfz75_0 := blk_frozen BK137.out 0
                have hfz75_1 := blk_frozen BK137.out 1
                have hnb76 := NB138_139.out
                have hnc76 := NB139_138.out
                have hcz77_0 : wc.cell? ⟨gb138, 0, none⟩ = some (.int .i64 a2_0) := (blk_cell BK138.out 0).trans rfl
                have hcz77_1 : wc.cell? ⟨gb138, 1, none⟩ = some (.int .i32 a2_1) := (blk_cell BK138.out 1).trans rfl
                have hfz77_0 := blk_frozen BK138.out 0
                have hfz77_1 := blk_frozen BK138.out 1
                go_wp2_with (first | ((with_reducible refine gate_callee (f := 20) rfl ?_); refine goesL_ (some 63) rfl rfl Try.func20 (by kernel_rfl) rfl #[.string a0, .agg #[.int .i64 a1_0, .int .i32 a1_1], .agg #[.int .i64 a2_0, .int .i32 a2_1]] rfl (by (try simp only [List.map_toArray, List.map_cons, List.map_nil]); first | done | rfl | (simp only [List.length_drop, List.length_take]; rfl)) ?_; (with_reducible refine (konst_compare.calls kj20 a0 a1_0 a1_1 a2_0 a2_1 t151 t152 t153 _ A72.out).mono ?_); rintro e w78 ⟨rfl, hb⟩; refine ⟨_, rfl, ?_⟩; have n0_ := Aside0.mk (blk_below (g := gb137) (o := .cells #[.int .i64 a1_0, .int .i32 a1_1] 23 (0, 0)) (by (with_reducible repeat (first | refine blk_drewN ?_ _ | refine blk_drew ?_ | refine blk_alloc ?_ _)); exact BK137.out) hb); have n1_ := Aside0.mk (blk_below (g := gb138) (o := .cells #[.int .i64 a2_0, .int .i32 a2_1] 23 (0, 0)) (by (with_reducible repeat (first | refine blk_drewN ?_ _ | refine blk_drew ?_ | refine blk_alloc ?_ _)); exact BK138.out) hb); have n2_ := Aside0.mk (blk_below (g := gb139) (o := .cells #[.int .i64 0, .int .i32 0] 23 (0, 0)) (by (with_reducible repeat (first | refine blk_drewN ?_ _ | refine blk_drew ?_ | refine blk_alloc ?_ _)); exact BK139.out) hb); have n3_ := Aside0.mk (below_step (by repeat (first | (with_reducible first | exact HB.out | apply below_alloc | apply pw_below_drewN | apply below_drew1 | refine below_set ?_ GE137.out | refine below_set ?_ GE138.out | refine below_set ?_ GE139.out) | exact HB.out)) hb); clear BK137; clear BK138; clear BK139; clear HB; have BK137 := n0_; have BK138 := n1_; have BK139 := n2_; have HB := n3_; clear n0_ n1_ n2_ n3_; (try clear hb); (try clear hb2); (try clear hk); (try clear hi); have hcz79_0 : w78.cell? ⟨gb139, 0, none⟩ = some (.int .i64 0) := (blk_cell BK139.out 0).trans rfl; have hcz79_1 : w78.cell? ⟨gb139, 1, none⟩ = some (.int .i32 0) := (blk_cell BK139.out 1).trans rfl; have hfz79_0 := blk_frozen BK139.out 0; have hfz79_1 := blk_frozen BK139.out 1))
                refine bodyPost_ret (results_ct rfl _ _ gb139 23 #[.int .i64 t151, .int .i32 t152] (0, 0) _ rfl (by (with_reducible repeat (first | refine blk_drewN ?_ _ | refine blk_drew ?_ | refine blk_alloc ?_ _)); refine blk_put (cs := #[.int .i64 t151, .int .i32 0]) ?_ 1 _ rfl; (with_reducible repeat (first | refine blk_drewN ?_ _ | refine blk_drew ?_ | refine blk_alloc ?_ _)); refine blk_put (cs := #[.int .i64 0, .int .i32 0]) ?_ 0 _ rfl; (with_reducible repeat (first | refine blk_drewN ?_ _ | refine blk_drew ?_ | refine blk_alloc ?_ _)); exact BK139.out) Try.underlying23 rfl (by kernel_rfl)) rfl ?_
                exact ⟨by first | rfl | (simp [errW_none, errW_some] <;> rfl) | (simp [*, errW_none, errW_some] <;> rfl), by repeat (first | (with_reducible first | exact HB.out | apply below_alloc | apply pw_below_drewN | apply below_drew1 | refine below_set ?_ GE137.out | refine below_set ?_ GE138.out | refine below_set ?_ GE139.out) | exact HB.out)⟩
              · rw [if_neg c71] at H
                have c71b0 : (a0.toList == ([61] : List UInt8)) = false := beq_eq_false_iff_ne.mpr c71
                have c71b1 : (a0.toList != ([61] : List UInt8)) = true := bne_iff_ne.mpr c71
                by_cases c80 : a0.toList = ([35] : List UInt8)
                · rw [if_pos c80] at H
                  have c80b0 : (a0.toList == ([35] : List UInt8)) = true := beq_iff_eq.mpr c80
                  have c80b1 : (a0.toList != ([35] : List UInt8)) = false := bne_eq_false_iff_eq.mpr c80
                  clear c80
                  replace H := Option.bind_eq_some_iff.mp H
                  obtain ⟨⟨t154, t155, t156⟩, A810, H⟩ := H
                  replace H : (some (t154, t155, t156)) = some (r1, r2, r3) := H
                  have A81 := Aside0.mk A810
                  clear A810
                  simp only [Option.some.injEq, Prod.mk.injEq] at H
                  obtain ⟨rfl, rfl, rfl⟩ := H
                  have hnb82 := NB137_138.out
                  have hnc82 := NB138_137.out
                  have hnb83 := NB137_139.out
                  have hnc83 := NB139_137.out
                  have hcz84_0 : wc.cell? ⟨gb137, 0, none⟩ = some (.int .i64 a1_0) := (blk_cell BK137.out 0).trans rfl
                  have hcz84_1 : wc.cell? ⟨gb137, 1, none⟩ = some (.int .i32 a1_1) := (blk_cell BK137.out 1).trans rfl
                  have hfz84_0 := blk_frozen BK137.out 0
                  have hfz84_1 := blk_frozen BK137.out 1
                  have hnb85 := NB138_139.out
                  have hnc85 := NB139_138.out
                  have hcz86_0 : wc.cell? ⟨gb138, 0, none⟩ = some (.int .i64 a2_0) := (blk_cell BK138.out 0).trans rfl
                  have hcz86_1 : wc.cell? ⟨gb138, 1, none⟩ = some (.int .i32 a2_1) := (blk_cell BK138.out 1).trans rfl
                  have hfz86_0 := blk_frozen BK138.out 0
                  have hfz86_1 := blk_frozen BK138.out 1
                  go_wp2_with (first | ((with_reducible refine gate_callee (f := 20) rfl ?_); refine goesL_ (some 63) rfl rfl Try.func20 (by kernel_rfl) rfl #[.string a0, .agg #[.int .i64 a1_0, .int .i32 a1_1], .agg #[.int .i64 a2_0, .int .i32 a2_1]] rfl (by (try simp only [List.map_toArray, List.map_cons, List.map_nil]); first | done | rfl | (simp only [List.length_drop, List.length_take]; rfl)) ?_; (with_reducible refine (konst_compare.calls kj20 a0 a1_0 a1_1 a2_0 a2_1 t154 t155 t156 _ A81.out).mono ?_); rintro e w87 ⟨rfl, hb⟩; refine ⟨_, rfl, ?_⟩; have n0_ := Aside0.mk (blk_below (g := gb137) (o := .cells #[.int .i64 a1_0, .int .i32 a1_1] 23 (0, 0)) (by (with_reducible repeat (first | refine blk_drewN ?_ _ | refine blk_drew ?_ | refine blk_alloc ?_ _)); exact BK137.out) hb); have n1_ := Aside0.mk (blk_below (g := gb138) (o := .cells #[.int .i64 a2_0, .int .i32 a2_1] 23 (0, 0)) (by (with_reducible repeat (first | refine blk_drewN ?_ _ | refine blk_drew ?_ | refine blk_alloc ?_ _)); exact BK138.out) hb); have n2_ := Aside0.mk (blk_below (g := gb139) (o := .cells #[.int .i64 0, .int .i32 0] 23 (0, 0)) (by (with_reducible repeat (first | refine blk_drewN ?_ _ | refine blk_drew ?_ | refine blk_alloc ?_ _)); exact BK139.out) hb); have n3_ := Aside0.mk (below_step (by repeat (first | (with_reducible first | exact HB.out | apply below_alloc | apply pw_below_drewN | apply below_drew1 | refine below_set ?_ GE137.out | refine below_set ?_ GE138.out | refine below_set ?_ GE139.out) | exact HB.out)) hb); clear BK137; clear BK138; clear BK139; clear HB; have BK137 := n0_; have BK138 := n1_; have BK139 := n2_; have HB := n3_; clear n0_ n1_ n2_ n3_; (try clear hb); (try clear hb2); (try clear hk); (try clear hi); have hcz88_0 : w87.cell? ⟨gb139, 0, none⟩ = some (.int .i64 0) := (blk_cell BK139.out 0).trans rfl; have hcz88_1 : w87.cell? ⟨gb139, 1, none⟩ = some (.int .i32 0) := (blk_cell BK139.out 1).trans rfl; have hfz88_0 := blk_frozen BK139.out 0; have hfz88_1 := blk_frozen BK139.out 1))
                  refine bodyPost_ret (results_ct rfl _ _ gb139 23 #[.int .i64 t154, .int .i32 t155] (0, 0) _ rfl (by (with_reducible repeat (first | refine blk_drewN ?_ _ | refine blk_drew ?_ | refine blk_alloc ?_ _)); refine blk_put (cs := #[.int .i64 t154, .int .i32 0]) ?_ 1 _ rfl; (with_reducible repeat (first | refine blk_drewN ?_ _ | refine blk_drew ?_ | refine blk_alloc ?_ _)); refine blk_put (cs := #[.int .i64 0, .int .i32 0]) ?_ 0 _ rfl; (with_reducible repeat (first | refine blk_drewN ?_ _ | refine blk_drew ?_ | refine blk_alloc ?_ _)); exact BK139.out) Try.underlying23 rfl (by kernel_rfl)) rfl ?_
                  exact ⟨by first | rfl | (simp [errW_none, errW_some] <;> rfl) | (simp [*, errW_none, errW_some] <;> rfl), by repeat (first | (with_reducible first | exact HB.out | apply below_alloc | apply pw_below_drewN | apply below_drew1 | refine below_set ?_ GE137.out | refine below_set ?_ GE138.out | refine below_set ?_ GE139.out) | exact HB.out)⟩
                · rw [if_neg c80] at H
                  have c80b0 : (a0.toList == ([35] : List UInt8)) = false := beq_eq_false_iff_ne.mpr c80
                  have c80b1 : (a0.toList != ([35] : List UInt8)) = true := bne_iff_ne.mpr c80
                  by_cases c89 : a0.toList = ([60] : List UInt8)
                  · rw [if_pos c89] at H
                    have c89b0 : (a0.toList == ([60] : List UInt8)) = true := beq_iff_eq.mpr c89
                    have c89b1 : (a0.toList != ([60] : List UInt8)) = false := bne_eq_false_iff_eq.mpr c89
                    clear c89
                    replace H := Option.bind_eq_some_iff.mp H
                    obtain ⟨⟨t157, t158, t159⟩, A900, H⟩ := H
                    replace H : (some (t157, t158, t159)) = some (r1, r2, r3) := H
                    have A90 := Aside0.mk A900
                    clear A900
                    simp only [Option.some.injEq, Prod.mk.injEq] at H
                    obtain ⟨rfl, rfl, rfl⟩ := H
                    have hnb91 := NB137_138.out
                    have hnc91 := NB138_137.out
                    have hnb92 := NB137_139.out
                    have hnc92 := NB139_137.out
                    have hcz93_0 : wc.cell? ⟨gb137, 0, none⟩ = some (.int .i64 a1_0) := (blk_cell BK137.out 0).trans rfl
                    have hcz93_1 : wc.cell? ⟨gb137, 1, none⟩ = some (.int .i32 a1_1) := (blk_cell BK137.out 1).trans rfl
                    have hfz93_0 := blk_frozen BK137.out 0
                    have hfz93_1 := blk_frozen BK137.out 1
                    have hnb94 := NB138_139.out
                    have hnc94 := NB139_138.out
                    have hcz95_0 : wc.cell? ⟨gb138, 0, none⟩ = some (.int .i64 a2_0) := (blk_cell BK138.out 0).trans rfl
                    have hcz95_1 : wc.cell? ⟨gb138, 1, none⟩ = some (.int .i32 a2_1) := (blk_cell BK138.out 1).trans rfl
                    have hfz95_0 := blk_frozen BK138.out 0
                    have hfz95_1 := blk_frozen BK138.out 1
                    go_wp2_with (first | ((with_reducible refine gate_callee (f := 20) rfl ?_); refine goesL_ (some 63) rfl rfl Try.func20 (by kernel_rfl) rfl #[.string a0, .agg #[.int .i64 a1_0, .int .i32 a1_1], .agg #[.int .i64 a2_0, .int .i32 a2_1]] rfl (by (try simp only [List.map_toArray, List.map_cons, List.map_nil]); first | done | rfl | (simp only [List.length_drop, List.length_take]; rfl)) ?_; (with_reducible refine (konst_compare.calls kj20 a0 a1_0 a1_1 a2_0 a2_1 t157 t158 t159 _ A90.out).mono ?_); rintro e w96 ⟨rfl, hb⟩; refine ⟨_, rfl, ?_⟩; have n0_ := Aside0.mk (blk_below (g := gb137) (o := .cells #[.int .i64 a1_0, .int .i32 a1_1] 23 (0, 0)) (by (with_reducible repeat (first | refine blk_drewN ?_ _ | refine blk_drew ?_ | refine blk_alloc ?_ _)); exact BK137.out) hb); have n1_ := Aside0.mk (blk_below (g := gb138) (o := .cells #[.int .i64 a2_0, .int .i32 a2_1] 23 (0, 0)) (by (with_reducible repeat (first | refine blk_drewN ?_ _ | refine blk_drew ?_ | refine blk_alloc ?_ _)); exact BK138.out) hb); have n2_ := Aside0.mk (blk_below (g := gb139) (o := .cells #[.int .i64 0, .int .i32 0] 23 (0, 0)) (by (with_reducible repeat (first | refine blk_drewN ?_ _ | refine blk_drew ?_ | refine blk_alloc ?_ _)); exact BK139.out) hb); have n3_ := Aside0.mk (below_step (by repeat (first | (with_reducible first | exact HB.out | apply below_alloc | apply pw_below_drewN | apply below_drew1 | refine below_set ?_ GE137.out | refine below_set ?_ GE138.out | refine below_set ?_ GE139.out) | exact HB.out)) hb); clear BK137; clear BK138; clear BK139; clear HB; have BK137 := n0_; have BK138 := n1_; have BK139 := n2_; have HB := n3_; clear n0_ n1_ n2_ n3_; (try clear hb); (try clear hb2); (try clear hk); (try clear hi); have hcz97_0 : w96.cell? ⟨gb139, 0, none⟩ = some (.int .i64 0) := (blk_cell BK139.out 0).trans rfl; have hcz97_1 : w96.cell? ⟨gb139, 1, none⟩ = some (.int .i32 0) := (blk_cell BK139.out 1).trans rfl; have hfz97_0 := blk_frozen BK139.out 0; have hfz97_1 := blk_frozen BK139.out 1))
                    refine bodyPost_ret (results_ct rfl _ _ gb139 23 #[.int .i64 t157, .int .i32 t158] (0, 0) _ rfl (by (with_reducible repeat (first | refine blk_drewN ?_ _ | refine blk_drew ?_ | refine blk_alloc ?_ _)); refine blk_put (cs := #[.int .i64 t157, .int .i32 0]) ?_ 1 _ rfl; (with_reducible repeat (first | refine blk_drewN ?_ _ | refine blk_drew ?_ | refine blk_alloc ?_ _)); refine blk_put (cs := #[.int .i64 0, .int .i32 0]) ?_ 0 _ rfl; (with_reducible repeat (first | refine blk_drewN ?_ _ | refine blk_drew ?_ | refine blk_alloc ?_ _)); exact BK139.out) Try.underlying23 rfl (by kernel_rfl)) rfl ?_
                    exact ⟨by first | rfl | (simp [errW_none, errW_some] <;> rfl) | (simp [*, errW_none, errW_some] <;> rfl), by repeat (first | (with_reducible first | exact HB.out | apply below_alloc | apply pw_below_drewN | apply below_drew1 | refine below_set ?_ GE137.out | refine below_set ?_ GE138.out | refine below_set ?_ GE139.out) | exact HB.out)⟩
                  · rw [if_neg c89] at H
                    have c89b0 : (a0.toList == ([60] : List UInt8)) = false := beq_eq_false_iff_ne.mpr c89
                    have c89b1 : (a0.toList != ([60] : List UInt8)) = true := bne_iff_ne.mpr c89
                    by_cases c98 : a0.toList = ([60, 61] : List UInt8)
                    · rw [if_pos c98] at H
                      have c98b0 : (a0.toList == ([60, 61] : List UInt8)) = true := beq_iff_eq.mpr c98
                      have c98b1 : (a0.toList != ([60, 61] : List UInt8)) = false := bne_eq_false_iff_eq.mpr c98
                      clear c98
                      replace H := Option.bind_eq_some_iff.mp H
                      obtain ⟨⟨t160, t161, t162⟩, A990, H⟩ := H
                      replace H : (some (t160, t161, t162)) = some (r1, r2, r3) := H
                      have A99 := Aside0.mk A990
                      clear A990
                      simp only [Option.some.injEq, Prod.mk.injEq] at H
                      obtain ⟨rfl, rfl, rfl⟩ := H
                      have hnb100 := NB137_138.out
                      have hnc100 := NB138_137.out
                      have hnb101 := NB137_139.out
                      have hnc101 := NB139_137.out
                      have hcz102_0 : wc.cell? ⟨gb137, 0, none⟩ = some (.int .i64 a1_0) := (blk_cell BK137.out 0).trans rfl
                      have hcz102_1 : wc.cell? ⟨gb137, 1, none⟩ = some (.int .i32 a1_1) := (blk_cell BK137.out 1).trans rfl
                      have hfz102_0 := blk_frozen BK137.out 0
                      have hfz102_1 := blk_frozen BK137.out 1
                      have hnb103 := NB138_139.out
                      have hnc103 := NB139_138.out
                      have hcz104_0 : wc.cell? ⟨gb138, 0, none⟩ = some (.int .i64 a2_0) := (blk_cell BK138.out 0).trans rfl
                      have hcz104_1 : wc.cell? ⟨gb138, 1, none⟩ = some (.int .i32 a2_1) := (blk_cell BK138.out 1).trans rfl
                      have hfz104_0 := blk_frozen BK138.out 0
                      have hfz104_1 := blk_frozen BK138.out 1
                      go_wp2_with (first | ((with_reducible refine gate_callee (f := 20) rfl ?_); refine goesL_ (some 63) rfl rfl Try.func20 (by kernel_rfl) rfl #[.string a0, .agg #[.int .i64 a1_0, .int .i32 a1_1], .agg #[.int .i64 a2_0, .int .i32 a2_1]] rfl (by (try simp only [List.map_toArray, List.map_cons, List.map_nil]); first | done | rfl | (simp only [List.length_drop, List.length_take]; rfl)) ?_; (with_reducible refine (konst_compare.calls kj20 a0 a1_0 a1_1 a2_0 a2_1 t160 t161 t162 _ A99.out).mono ?_); rintro e w105 ⟨rfl, hb⟩; refine ⟨_, rfl, ?_⟩; have n0_ := Aside0.mk (blk_below (g := gb137) (o := .cells #[.int .i64 a1_0, .int .i32 a1_1] 23 (0, 0)) (by (with_reducible repeat (first | refine blk_drewN ?_ _ | refine blk_drew ?_ | refine blk_alloc ?_ _)); exact BK137.out) hb); have n1_ := Aside0.mk (blk_below (g := gb138) (o := .cells #[.int .i64 a2_0, .int .i32 a2_1] 23 (0, 0)) (by (with_reducible repeat (first | refine blk_drewN ?_ _ | refine blk_drew ?_ | refine blk_alloc ?_ _)); exact BK138.out) hb); have n2_ := Aside0.mk (blk_below (g := gb139) (o := .cells #[.int .i64 0, .int .i32 0] 23 (0, 0)) (by (with_reducible repeat (first | refine blk_drewN ?_ _ | refine blk_drew ?_ | refine blk_alloc ?_ _)); exact BK139.out) hb); have n3_ := Aside0.mk (below_step (by repeat (first | (with_reducible first | exact HB.out | apply below_alloc | apply pw_below_drewN | apply below_drew1 | refine below_set ?_ GE137.out | refine below_set ?_ GE138.out | refine below_set ?_ GE139.out) | exact HB.out)) hb); clear BK137; clear BK138; clear BK139; clear HB; have BK137 := n0_; have BK138 := n1_; have BK139 := n2_; have HB := n3_; clear n0_ n1_ n2_ n3_; (try clear hb); (try clear hb2); (try clear hk); (try clear hi); have hcz106_0 : w105.cell? ⟨gb139, 0, none⟩ = some (.int .i64 0) := (blk_cell BK139.out 0).trans rfl; have hcz106_1 : w105.cell? ⟨gb139, 1, none⟩ = some (.int .i32 0) := (blk_cell BK139.out 1).trans rfl; have hfz106_0 := blk_frozen BK139.out 0; have hfz106_1 := blk_frozen BK139.out 1))
                      refine bodyPost_ret (results_ct rfl _ _ gb139 23 #[.int .i64 t160, .int .i32 t161] (0, 0) _ rfl (by (with_reducible repeat (first | refine blk_drewN ?_ _ | refine blk_drew ?_ | refine blk_alloc ?_ _)); refine blk_put (cs := #[.int .i64 t160, .int .i32 0]) ?_ 1 _ rfl; (with_reducible repeat (first | refine blk_drewN ?_ _ | refine blk_drew ?_ | refine blk_alloc ?_ _)); refine blk_put (cs := #[.int .i64 0, .int .i32 0]) ?_ 0 _ rfl; (with_reducible repeat (first | refine blk_drewN ?_ _ | refine blk_drew ?_ | refine blk_alloc ?_ _)); exact BK139.out) Try.underlying23 rfl (by kernel_rfl)) rfl ?_
                      exact ⟨by first | rfl | (simp [errW_none, errW_some] <;> rfl) | (simp [*, errW_none, errW_some] <;> rfl), by repeat (first | (with_reducible first | exact HB.out | apply below_alloc | apply pw_below_drewN | apply below_drew1 | refine below_set ?_ GE137.out | refine below_set ?_ GE138.out | refine below_set ?_ GE139.out) | exact HB.out)⟩
                    · rw [if_neg c98] at H
                      have c98b0 : (a0.toList == ([60, 61] : List UInt8)) = false := beq_eq_false_iff_ne.mpr c98
                      have c98b1 : (a0.toList != ([60, 61] : List UInt8)) = true := bne_iff_ne.mpr c98
                      by_cases c107 : a0.toList = ([62] : List UInt8)
                      · rw [if_pos c107] at H
                        have c107b0 : (a0.toList == ([62] : List UInt8)) = true := beq_iff_eq.mpr c107
                        have c107b1 : (a0.toList != ([62] : List UInt8)) = false := bne_eq_false_iff_eq.mpr c107
                        clear c107
                        replace H := Option.bind_eq_some_iff.mp H
                        obtain ⟨⟨t163, t164, t165⟩, A1080, H⟩ := H
                        replace H : (some (t163, t164, t165)) = some (r1, r2, r3) := H
                        have A108 := Aside0.mk A1080
                        clear A1080
                        simp only [Option.some.injEq, Prod.mk.injEq] at H
                        obtain ⟨rfl, rfl, rfl⟩ := H
                        have hnb109 := NB137_138.out
                        have hnc109 := NB138_137.out
                        have hnb110 := NB137_139.out
                        have hnc110 := NB139_137.out
                        have hcz111_0 : wc.cell? ⟨gb137, 0, none⟩ = some (.int .i64 a1_0) := (blk_cell BK137.out 0).trans rfl
                        have hcz111_1 : wc.cell? ⟨gb137, 1, none⟩ = some (.int .i32 a1_1) := (blk_cell BK137.out 1).trans rfl
                        have hfz111_0 := blk_frozen BK137.out 0
                        have hfz111_1 := blk_frozen BK137.out 1
                        have hnb112 := NB138_139.out
                        have hnc112 := NB139_138.out
                        have hcz113_0 : wc.cell? ⟨gb138, 0, none⟩ = some (.int .i64 a2_0) := (blk_cell BK138.out 0).trans rfl
                        have hcz113_1 : wc.cell? ⟨gb138, 1, none⟩ = some (.int .i32 a2_1) := (blk_cell BK138.out 1).trans rfl
                        have hfz113_0 := blk_frozen BK138.out 0
                        have hfz113_1 := blk_frozen BK138.out 1
                        go_wp2_with (first | ((with_reducible refine gate_callee (f := 20) rfl ?_); refine goesL_ (some 63) rfl rfl Try.func20 (by kernel_rfl) rfl #[.string a0, .agg #[.int .i64 a1_0, .int .i32 a1_1], .agg #[.int .i64 a2_0, .int .i32 a2_1]] rfl (by (try simp only [List.map_toArray, List.map_cons, List.map_nil]); first | done | rfl | (simp only [List.length_drop, List.length_take]; rfl)) ?_; (with_reducible refine (konst_compare.calls kj20 a0 a1_0 a1_1 a2_0 a2_1 t163 t164 t165 _ A108.out).mono ?_); rintro e w114 ⟨rfl, hb⟩; refine ⟨_, rfl, ?_⟩; have n0_ := Aside0.mk (blk_below (g := gb137) (o := .cells #[.int .i64 a1_0, .int .i32 a1_1] 23 (0, 0)) (by (with_reducible repeat (first | refine blk_drewN ?_ _ | refine blk_drew ?_ | refine blk_alloc ?_ _)); exact BK137.out) hb); have n1_ := Aside0.mk (blk_below (g := gb138) (o := .cells #[.int .i64 a2_0, .int .i32 a2_1] 23 (0, 0)) (by (with_reducible repeat (first | refine blk_drewN ?_ _ | refine blk_drew ?_ | refine blk_alloc ?_ _)); exact BK138.out) hb); have n2_ := Aside0.mk (blk_below (g := gb139) (o := .cells #[.int .i64 0, .int .i32 0] 23 (0, 0)) (by (with_reducible repeat (first | refine blk_drewN ?_ _ | refine blk_drew ?_ | refine blk_alloc ?_ _)); exact BK139.out) hb); have n3_ := Aside0.mk (below_step (by repeat (first | (with_reducible first | exact HB.out | apply below_alloc | apply pw_below_drewN | apply below_drew1 | refine below_set ?_ GE137.out | refine below_set ?_ GE138.out | refine below_set ?_ GE139.out) | exact HB.out)) hb); clear BK137; clear BK138; clear BK139; clear HB; have BK137 := n0_; have BK138 := n1_; have BK139 := n2_; have HB := n3_; clear n0_ n1_ n2_ n3_; (try clear hb); (try clear hb2); (try clear hk); (try clear hi); have hcz115_0 : w114.cell? ⟨gb139, 0, none⟩ = some (.int .i64 0) := (blk_cell BK139.out 0).trans rfl; have hcz115_1 : w114.cell? ⟨gb139, 1, none⟩ = some (.int .i32 0) := (blk_cell BK139.out 1).trans rfl; have hfz115_0 := blk_frozen BK139.out 0; have hfz115_1 := blk_frozen BK139.out 1))
                        refine bodyPost_ret (results_ct rfl _ _ gb139 23 #[.int .i64 t163, .int .i32 t164] (0, 0) _ rfl (by (with_reducible repeat (first | refine blk_drewN ?_ _ | refine blk_drew ?_ | refine blk_alloc ?_ _)); refine blk_put (cs := #[.int .i64 t163, .int .i32 0]) ?_ 1 _ rfl; (with_reducible repeat (first | refine blk_drewN ?_ _ | refine blk_drew ?_ | refine blk_alloc ?_ _)); refine blk_put (cs := #[.int .i64 0, .int .i32 0]) ?_ 0 _ rfl; (with_reducible repeat (first | refine blk_drewN ?_ _ | refine blk_drew ?_ | refine blk_alloc ?_ _)); exact BK139.out) Try.underlying23 rfl (by kernel_rfl)) rfl ?_
                        exact ⟨by first | rfl | (simp [errW_none, errW_some] <;> rfl) | (simp [*, errW_none, errW_some] <;> rfl), by repeat (first | (with_reducible first | exact HB.out | apply below_alloc | apply pw_below_drewN | apply below_drew1 | refine below_set ?_ GE137.out | refine below_set ?_ GE138.out | refine below_set ?_ GE139.out) | exact HB.out)⟩
                      · rw [if_neg c107] at H
                        have c107b0 : (a0.toList == ([62] : List UInt8)) = false := beq_eq_false_iff_ne.mpr c107
                        have c107b1 : (a0.toList != ([62] : List UInt8)) = true := bne_iff_ne.mpr c107
                        by_cases c116 : a0.toList = ([62, 61] : List UInt8)
                        · rw [if_pos c116] at H
                          have c116b0 : (a0.toList == ([62, 61] : List UInt8)) = true := beq_iff_eq.mpr c116
                          have c116b1 : (a0.toList != ([62, 61] : List UInt8)) = false := bne_eq_false_iff_eq.mpr c116
                          clear c116
                          replace H := Option.bind_eq_some_iff.mp H
                          obtain ⟨⟨t166, t167, t168⟩, A1170, H⟩ := H
                          replace H : (some (t166, t167, t168)) = some (r1, r2, r3) := H
                          have A117 := Aside0.mk A1170
                          clear A1170
                          simp only [Option.some.injEq, Prod.mk.injEq] at H
                          obtain ⟨rfl, rfl, rfl⟩ := H
                          have hnb118 := NB137_138.out
                          have hnc118 := NB138_137.out
                          have hnb119 := NB137_139.out
                          have hnc119 := NB139_137.out
                          have hcz120_0 : wc.cell? ⟨gb137, 0, none⟩ = some (.int .i64 a1_0) := (blk_cell BK137.out 0).trans rfl
                          have hcz120_1 : wc.cell? ⟨gb137, 1, none⟩ = some (.int .i32 a1_1) := (blk_cell BK137.out 1).trans rfl
                          have hfz120_0 := blk_frozen BK137.out 0
                          have hfz120_1 := blk_frozen BK137.out 1
                          have hnb121 := NB138_139.out
                          have hnc121 := NB139_138.out
                          have hcz122_0 : wc.cell? ⟨gb138, 0, none⟩ = some (.int .i64 a2_0) := (blk_cell BK138.out 0).trans rfl
                          have hcz122_1 : wc.cell? ⟨gb138, 1, none⟩ = some (.int .i32 a2_1) := (blk_cell BK138.out 1).trans rfl
                          have hfz122_0 := blk_frozen BK138.out 0
                          have hfz122_1 := blk_frozen BK138.out 1
                          go_wp2_with (first | ((with_reducible refine gate_callee (f := 20) rfl ?_); refine goesL_ (some 63) rfl rfl Try.func20 (by kernel_rfl) rfl #[.string a0, .agg #[.int .i64 a1_0, .int .i32 a1_1], .agg #[.int .i64 a2_0, .int .i32 a2_1]] rfl (by (try simp only [List.map_toArray, List.map_cons, List.map_nil]); first | done | rfl | (simp only [List.length_drop, List.length_take]; rfl)) ?_; (with_reducible refine (konst_compare.calls kj20 a0 a1_0 a1_1 a2_0 a2_1 t166 t167 t168 _ A117.out).mono ?_); rintro e w123 ⟨rfl, hb⟩; refine ⟨_, rfl, ?_⟩; have n0_ := Aside0.mk (blk_below (g := gb137) (o := .cells #[.int .i64 a1_0, .int .i32 a1_1] 23 (0, 0)) (by (with_reducible repeat (first | refine blk_drewN ?_ _ | refine blk_drew ?_ | refine blk_alloc ?_ _)); exact BK137.out) hb); have n1_ := Aside0.mk (blk_below (g := gb138) (o := .cells #[.int .i64 a2_0, .int .i32 a2_1] 23 (0, 0)) (by (with_reducible repeat (first | refine blk_drewN ?_ _ | refine blk_drew ?_ | refine blk_alloc ?_ _)); exact BK138.out) hb); have n2_ := Aside0.mk (blk_below (g := gb139) (o := .cells #[.int .i64 0, .int .i32 0] 23 (0, 0)) (by (with_reducible repeat (first | refine blk_drewN ?_ _ | refine blk_drew ?_ | refine blk_alloc ?_ _)); exact BK139.out) hb); have n3_ := Aside0.mk (below_step (by repeat (first | (with_reducible first | exact HB.out | apply below_alloc | apply pw_below_drewN | apply below_drew1 | refine below_set ?_ GE137.out | refine below_set ?_ GE138.out | refine below_set ?_ GE139.out) | exact HB.out)) hb); clear BK137; clear BK138; clear BK139; clear HB; have BK137 := n0_; have BK138 := n1_; have BK139 := n2_; have HB := n3_; clear n0_ n1_ n2_ n3_; (try clear hb); (try clear hb2); (try clear hk); (try clear hi); have hcz124_0 : w123.cell? ⟨gb139, 0, none⟩ = some (.int .i64 0) := (blk_cell BK139.out 0).trans rfl; have hcz124_1 : w123.cell? ⟨gb139, 1, none⟩ = some (.int .i32 0) := (blk_cell BK139.out 1).trans rfl; have hfz124_0 := blk_frozen BK139.out 0; have hfz124_1 := blk_frozen BK139.out 1))
                          refine bodyPost_ret (results_ct rfl _ _ gb139 23 #[.int .i64 t166, .int .i32 t167] (0, 0) _ rfl (by (with_reducible repeat (first | refine blk_drewN ?_ _ | refine blk_drew ?_ | refine blk_alloc ?_ _)); refine blk_put (cs := #[.int .i64 t166, .int .i32 0]) ?_ 1 _ rfl; (with_reducible repeat (first | refine blk_drewN ?_ _ | refine blk_drew ?_ | refine blk_alloc ?_ _)); refine blk_put (cs := #[.int .i64 0, .int .i32 0]) ?_ 0 _ rfl; (with_reducible repeat (first | refine blk_drewN ?_ _ | refine blk_drew ?_ | refine blk_alloc ?_ _)); exact BK139.out) Try.underlying23 rfl (by kernel_rfl)) rfl ?_
                          exact ⟨by first | rfl | (simp [errW_none, errW_some] <;> rfl) | (simp [*, errW_none, errW_some] <;> rfl), by repeat (first | (with_reducible first | exact HB.out | apply below_alloc | apply pw_below_drewN | apply below_drew1 | refine below_set ?_ GE137.out | refine below_set ?_ GE138.out | refine below_set ?_ GE139.out) | exact HB.out)⟩
                        · rw [if_neg c116] at H
                          have c116b0 : (a0.toList == ([62, 61] : List UInt8)) = false := beq_eq_false_iff_ne.mpr c116
                          have c116b1 : (a0.toList != ([62, 61] : List UInt8)) = true := bne_iff_ne.mpr c116
                          simp only [Option.some.injEq, Prod.mk.injEq] at H
                          obtain ⟨rfl, rfl, rfl⟩ := H
                          have hnb125 := NB139_137.out
                          have hnc125 := NB137_139.out
                          have hnb126 := NB139_138.out
                          have hnc126 := NB138_139.out
                          have hcz127_0 : wc.cell? ⟨gb139, 0, none⟩ = some (.int .i64 0) := (blk_cell BK139.out 0).trans rfl
                          have hcz127_1 : wc.cell? ⟨gb139, 1, none⟩ = some (.int .i32 0) := (blk_cell BK139.out 1).trans rfl
                          have hfz127_0 := blk_frozen BK139.out 0
                          have hfz127_1 := blk_frozen BK139.out 1
                          go_wp2
                          refine bodyPost_ret (results_ct rfl _ _ gb139 23 #[.int .i64 0, .int .i32 0] (0, 0) _ rfl (by (with_reducible repeat (first | refine blk_drewN ?_ _ | refine blk_drew ?_ | refine blk_alloc ?_ _)); refine blk_put (cs := #[.int .i64 0, .int .i32 0]) ?_ 1 _ rfl; (with_reducible repeat (first | refine blk_drewN ?_ _ | refine blk_drew ?_ | refine blk_alloc ?_ _)); refine blk_put (cs := #[.int .i64 0, .int .i32 0]) ?_ 0 _ rfl; (with_reducible repeat (first | refine blk_drewN ?_ _ | refine blk_drew ?_ | refine blk_alloc ?_ _)); exact BK139.out) Try.underlying23 rfl (by kernel_rfl)) rfl ?_
                          exact ⟨by first | rfl | (simp [errW_none, errW_some] <;> rfl) | (simp [*, errW_none, errW_some] <;> rfl), by repeat (first | (with_reducible first | exact HB.out | apply below_alloc | apply pw_below_drewN | apply below_drew1 | refine below_set ?_ GE137.out | refine below_set ?_ GE138.out | refine below_set ?_ GE139.out) | exact HB.out)⟩

end Go.Proofs.Yteaaicpmhdafgaa.P

-- Written by a program of this session (wip/tools/hp.py) out of the translation.
import Derived.Test.YteaaicpmhdafgaaPx0
import Derived.Test.YteaaicpmhdafgaaPx13
import Derived.Test.YteaaicpmhdafgaaPx15
namespace Go.Proofs.Yteaaicpmhdafgaa.P
open Go.RowKit Go.Proofs.YteaaicpmhdafgaaW.PrintWords Go.Proofs.YteaaicpmhdafgaaW.PrintLast Go.Proofs.YteaaicpmhdafgaaW.PrintMore
attribute [local go_sem] max2_int min2_int max_two min_two max_three min_three max_four min_four   -- for this text's walks alone
set_option linter.unusedVariables false
set_option linter.unusedSimpArgs false

/-! ### pascalineref10_Two: function 10 -/
mutual
def pascalineref10_Two.j0 : Nat → ByteArray → ByteArray → Bool → Int → Int → Int → Int → Option (Int × Int × Int)
  | 0, _, _, _, _, _, _, _ => none
  | k + 1, x0, x10, x12, x210000, x210001, x211000, x211001 => if x12 = true then (if x210000 = 1 then (pascalineref10_Two.j1 k x0 (x211000 != 1) x210000 x210001 x211000 x211001) else (pascalineref10_Two.j1 k x0 true x210000 x210001 x211000 x211001)) else (if x10.toList = ([65, 78, 68] : List UInt8) then (pascalineref10_Two.j2 k x0 x10 (x10.toList == ([65, 78, 68] : List UInt8)) x210000 x210001 x211000 x211001) else (pascalineref10_Two.j2 k x0 x10 (x10.toList == ([79, 82] : List UInt8)) x210000 x210001 x211000 x211001))
def pascalineref10_Two.j1 : Nat → ByteArray → Bool → Int → Int → Int → Int → Option (Int × Int × Int)
  | 0, _, _, _, _, _, _ => none
  | k + 1, x0, x25, x210000, x210001, x211000, x211001 => if x25 = true then (some (0, 0, 91)) else ((pascalineref10_Reckon.f x0 x210001 x211001).bind fun bt212 => (if bt212.2 = true then (some (1, bt212.1, 0)) else (some (0, 0, 10))))
def pascalineref10_Two.j2 : Nat → ByteArray → ByteArray → Bool → Int → Int → Int → Int → Option (Int × Int × Int)
  | 0, _, _, _, _, _, _, _ => none
  | k + 1, x0, x10, x41, x210000, x210001, x211000, x211001 => if x41 = true then (if x210000 = 2 then (pascalineref10_Two.j3 k x0 (x211000 != 2) x210000 x210001 x211000 x211001) else (pascalineref10_Two.j3 k x0 true x210000 x210001 x211000 x211001)) else (if x10.toList = ([61] : List UInt8) then (pascalineref10_Two.j4 k x0 (x10.toList == ([61] : List UInt8)) x210000 x210001 x211000 x211001) else (if x10.toList = ([35] : List UInt8) then (pascalineref10_Two.j4 k x0 (x10.toList == ([35] : List UInt8)) x210000 x210001 x211000 x211001) else (if x10.toList = ([60] : List UInt8) then (pascalineref10_Two.j4 k x0 (x10.toList == ([60] : List UInt8)) x210000 x210001 x211000 x211001) else (if x10.toList = ([60, 61] : List UInt8) then (pascalineref10_Two.j4 k x0 (x10.toList == ([60, 61] : List UInt8)) x210000 x210001 x211000 x211001) else (if x10.toList = ([62] : List UInt8) then (pascalineref10_Two.j4 k x0 (x10.toList == ([62] : List UInt8)) x210000 x210001 x211000 x211001) else (pascalineref10_Two.j4 k x0 (x10.toList == ([62, 61] : List UInt8)) x210000 x210001 x211000 x211001))))))
def pascalineref10_Two.j3 : Nat → ByteArray → Bool → Int → Int → Int → Int → Option (Int × Int × Int)
  | 0, _, _, _, _, _, _ => none
  | k + 1, x0, x51, x210000, x210001, x211000, x211001 => if x51 = true then (some (0, 0, 91)) else (if x0.toList = ([65, 78, 68] : List UInt8) then (if x210001 = 0 then ((pascalineref10_Truth.f false).bind fun bt214 => (some (bt214.1, bt214.2, 0))) else ((pascalineref10_Truth.f (x211001 != 0)).bind fun bt216 => (some (bt216.1, bt216.2, 0)))) else (if x210001 = 0 then ((pascalineref10_Truth.f (x211001 != 0)).bind fun bt218 => (some (bt218.1, bt218.2, 0))) else ((pascalineref10_Truth.f true).bind fun bt220 => (some (bt220.1, bt220.2, 0)))))
def pascalineref10_Two.j4 : Nat → ByteArray → Bool → Int → Int → Int → Int → Option (Int × Int × Int)
  | 0, _, _, _, _, _, _ => none
  | k + 1, x0, x73, x210000, x210001, x211000, x211001 => if x73 = true then (if x210000 = x211000 then ((pascalineref10_Right.f x210000 x210001).bind fun t222 => (if t222 = true then (if x0.toList = ([61] : List UInt8) then (pascalineref10_Two.j5 k x0 false x210000 x210001 x211000 x211001) else (if x0.toList = ([35] : List UInt8) then (pascalineref10_Two.j5 k x0 false x210000 x210001 x211000 x211001) else (if x210000 = 1 then (pascalineref10_Two.j5 k x0 false x210000 x210001 x211000 x211001) else (pascalineref10_Two.j5 k x0 (x210000 != 3) x210000 x210001 x211000 x211001)))) else (pascalineref10_Two.j5 k x0 true x210000 x210001 x211000 x211001))) else (pascalineref10_Two.j5 k x0 true x210000 x210001 x211000 x211001)) else (some (0, 0, 110))
def pascalineref10_Two.j5 : Nat → ByteArray → Bool → Int → Int → Int → Int → Option (Int × Int × Int)
  | 0, _, _, _, _, _, _ => none
  | k + 1, x0, x107, x210000, x210001, x211000, x211001 => if x107 = true then (some (0, 0, 91)) else ((pascalineref10_Compare.f x0 x210001 x211001).bind fun t223 => ((pascalineref10_Truth.f t223).bind fun bt224 => (some (bt224.1, bt224.2, 0))))
end
def pascalineref10_Two.f (k : Nat) (a0 : ByteArray) (a1_0 : Int) (a1_1 : Int) (a2_0 : Int) (a2_1 : Int) : Option (Int × Int × Int) := if a0.toList = ([43] : List UInt8) then (pascalineref10_Two.j0 k a0 a0 (a0.toList == ([43] : List UInt8)) a1_0 a1_1 a2_0 a2_1) else (if a0.toList = ([45] : List UInt8) then (pascalineref10_Two.j0 k a0 a0 (a0.toList == ([45] : List UInt8)) a1_0 a1_1 a2_0 a2_1) else (if a0.toList = ([42] : List UInt8) then (pascalineref10_Two.j0 k a0 a0 (a0.toList == ([42] : List UInt8)) a1_0 a1_1 a2_0 a2_1) else (if a0.toList = ([68, 73, 86] : List UInt8) then (pascalineref10_Two.j0 k a0 a0 (a0.toList == ([68, 73, 86] : List UInt8)) a1_0 a1_1 a2_0 a2_1) else (pascalineref10_Two.j0 k a0 a0 (a0.toList == ([77, 79, 68] : List UInt8)) a1_0 a1_1 a2_0 a2_1))))
theorem pascalineref10_Two.mono_l : ∀ k, (∀ y0 y1 y2 y3 y4 y5 y6, LeO (pascalineref10_Two.j0 k y0 y1 y2 y3 y4 y5 y6) (pascalineref10_Two.j0 (k + 1) y0 y1 y2 y3 y4 y5 y6)) ∧ (∀ y0 y1 y2 y3 y4 y5, LeO (pascalineref10_Two.j1 k y0 y1 y2 y3 y4 y5) (pascalineref10_Two.j1 (k + 1) y0 y1 y2 y3 y4 y5)) ∧ (∀ y0 y1 y2 y3 y4 y5 y6, LeO (pascalineref10_Two.j2 k y0 y1 y2 y3 y4 y5 y6) (pascalineref10_Two.j2 (k + 1) y0 y1 y2 y3 y4 y5 y6)) ∧ (∀ y0 y1 y2 y3 y4 y5, LeO (pascalineref10_Two.j3 k y0 y1 y2 y3 y4 y5) (pascalineref10_Two.j3 (k + 1) y0 y1 y2 y3 y4 y5)) ∧ (∀ y0 y1 y2 y3 y4 y5, LeO (pascalineref10_Two.j4 k y0 y1 y2 y3 y4 y5) (pascalineref10_Two.j4 (k + 1) y0 y1 y2 y3 y4 y5)) ∧ (∀ y0 y1 y2 y3 y4 y5, LeO (pascalineref10_Two.j5 k y0 y1 y2 y3 y4 y5) (pascalineref10_Two.j5 (k + 1) y0 y1 y2 y3 y4 y5))
  | 0 => ⟨fun _ _ _ _ _ _ _ r h => by simp [pascalineref10_Two.j0] at h, fun _ _ _ _ _ _ r h => by simp [pascalineref10_Two.j1] at h, fun _ _ _ _ _ _ _ r h => by simp [pascalineref10_Two.j2] at h, fun _ _ _ _ _ _ r h => by simp [pascalineref10_Two.j3] at h, fun _ _ _ _ _ _ r h => by simp [pascalineref10_Two.j4] at h, fun _ _ _ _ _ _ r h => by simp [pascalineref10_Two.j5] at h⟩
  | k + 1 => by
    obtain ⟨ih0, ih1, ih2, ih3, ih4, ih5⟩ := pascalineref10_Two.mono_l k
    refine ⟨?_, ?_, ?_, ?_, ?_, ?_⟩
    · intro y0 y1 y2 y3 y4 y5 y6
      unfold pascalineref10_Two.j0
      repeat' first
      | (with_reducible exact ih0 _ _ _ _ _ _ _)
      | (with_reducible exact ih1 _ _ _ _ _ _)
      | (with_reducible exact ih2 _ _ _ _ _ _ _)
      | (with_reducible exact ih3 _ _ _ _ _ _)
      | (with_reducible exact ih4 _ _ _ _ _ _)
      | (with_reducible exact ih5 _ _ _ _ _ _)
      | (with_reducible exact LeO.refl _)
      | (with_reducible exact LeO.none _)
      | (with_reducible refine LeO.ite ?_ ?_)
      | (with_reducible refine LeO.bind ?_ (fun _ => ?_))
      | exact ih0 _ _ _ _ _ _ _
      | exact ih1 _ _ _ _ _ _
      | exact ih2 _ _ _ _ _ _ _
      | exact ih3 _ _ _ _ _ _
      | exact ih4 _ _ _ _ _ _
      | exact ih5 _ _ _ _ _ _
      | exact LeO.none _
      | refine LeO.ite ?_ ?_
      | refine LeO.bind ?_ (fun _ => ?_)
    · intro y0 y1 y2 y3 y4 y5
      unfold pascalineref10_Two.j1
      repeat' first
      | (with_reducible exact ih0 _ _ _ _ _ _ _)
      | (with_reducible exact ih1 _ _ _ _ _ _)
      | (with_reducible exact ih2 _ _ _ _ _ _ _)
      | (with_reducible exact ih3 _ _ _ _ _ _)
      | (with_reducible exact ih4 _ _ _ _ _ _)
      | (with_reducible exact ih5 _ _ _ _ _ _)
      | (with_reducible exact LeO.refl _)
      | (with_reducible exact LeO.none _)
      | (with_reducible refine LeO.ite ?_ ?_)
      | (with_reducible refine LeO.bind ?_ (fun _ => ?_))
      | exact ih0 _ _ _ _ _ _ _
      | exact ih1 _ _ _ _ _ _
      | exact ih2 _ _ _ _ _ _ _
      | exact ih3 _ _ _ _ _ _
      | exact ih4 _ _ _ _ _ _
      | exact ih5 _ _ _ _ _ _
      | exact LeO.none _
      | refine LeO.ite ?_ ?_
      | refine LeO.bind ?_ (fun _ => ?_)
    · intro y0 y1 y2 y3 y4 y5 y6
      unfold pascalineref10_Two.j2
      repeat' first
      | (with_reducible exact ih0 _ _ _ _ _ _ _)
      | (with_reducible exact ih1 _ _ _ _ _ _)
      | (with_reducible exact ih2 _ _ _ _ _ _ _)
      | (with_reducible exact ih3 _ _ _ _ _ _)
      | (with_reducible exact ih4 _ _ _ _ _ _)
      | (with_reducible exact ih5 _ _ _ _ _ _)
      | (with_reducible exact LeO.refl _)
      | (with_reducible exact LeO.none _)
      | (with_reducible refine LeO.ite ?_ ?_)
      | (with_reducible refine LeO.bind ?_ (fun _ => ?_))
      | exact ih0 _ _ _ _ _ _ _
      | exact ih1 _ _ _ _ _ _
      | exact ih2 _ _ _ _ _ _ _
      | exact ih3 _ _ _ _ _ _
      | exact ih4 _ _ _ _ _ _
      | exact ih5 _ _ _ _ _ _
      | exact LeO.none _
      | refine LeO.ite ?_ ?_
      | refine LeO.bind ?_ (fun _ => ?_)
    · intro y0 y1 y2 y3 y4 y5
      unfold pascalineref10_Two.j3
      repeat' first
      | (with_reducible exact ih0 _ _ _ _ _ _ _)
      | (with_reducible exact ih1 _ _ _ _ _ _)
      | (with_reducible exact ih2 _ _ _ _ _ _ _)
      | (with_reducible exact ih3 _ _ _ _ _ _)
      | (with_reducible exact ih4 _ _ _ _ _ _)
      | (with_reducible exact ih5 _ _ _ _ _ _)
      | (with_reducible exact LeO.refl _)
      | (with_reducible exact LeO.none _)
      | (with_reducible refine LeO.ite ?_ ?_)
      | (with_reducible refine LeO.bind ?_ (fun _ => ?_))
      | exact ih0 _ _ _ _ _ _ _
      | exact ih1 _ _ _ _ _ _
      | exact ih2 _ _ _ _ _ _ _
      | exact ih3 _ _ _ _ _ _
      | exact ih4 _ _ _ _ _ _
      | exact ih5 _ _ _ _ _ _
      | exact LeO.none _
      | refine LeO.ite ?_ ?_
      | refine LeO.bind ?_ (fun _ => ?_)
    · intro y0 y1 y2 y3 y4 y5
      unfold pascalineref10_Two.j4
      repeat' first
      | (with_reducible exact ih0 _ _ _ _ _ _ _)
      | (with_reducible exact ih1 _ _ _ _ _ _)
      | (with_reducible exact ih2 _ _ _ _ _ _ _)
      | (with_reducible exact ih3 _ _ _ _ _ _)
      | (with_reducible exact ih4 _ _ _ _ _ _)
      | (with_reducible exact ih5 _ _ _ _ _ _)
      | (with_reducible exact LeO.refl _)
      | (with_reducible exact LeO.none _)
      | (with_reducible refine LeO.ite ?_ ?_)
      | (with_reducible refine LeO.bind ?_ (fun _ => ?_))
      | exact ih0 _ _ _ _ _ _ _
      | exact ih1 _ _ _ _ _ _
      | exact ih2 _ _ _ _ _ _ _
      | exact ih3 _ _ _ _ _ _
      | exact ih4 _ _ _ _ _ _
      | exact ih5 _ _ _ _ _ _
      | exact LeO.none _
      | refine LeO.ite ?_ ?_
      | refine LeO.bind ?_ (fun _ => ?_)
    · intro y0 y1 y2 y3 y4 y5
      unfold pascalineref10_Two.j5
      repeat' first
      | (with_reducible exact ih0 _ _ _ _ _ _ _)
      | (with_reducible exact ih1 _ _ _ _ _ _)
      | (with_reducible exact ih2 _ _ _ _ _ _ _)
      | (with_reducible exact ih3 _ _ _ _ _ _)
      | (with_reducible exact ih4 _ _ _ _ _ _)
      | (with_reducible exact ih5 _ _ _ _ _ _)
      | (with_reducible exact LeO.refl _)
      | (with_reducible exact LeO.none _)
      | (with_reducible refine LeO.ite ?_ ?_)
      | (with_reducible refine LeO.bind ?_ (fun _ => ?_))
      | exact ih0 _ _ _ _ _ _ _
      | exact ih1 _ _ _ _ _ _
      | exact ih2 _ _ _ _ _ _ _
      | exact ih3 _ _ _ _ _ _
      | exact ih4 _ _ _ _ _ _
      | exact ih5 _ _ _ _ _ _
      | exact LeO.none _
      | refine LeO.ite ?_ ?_
      | refine LeO.bind ?_ (fun _ => ?_)
theorem pascalineref10_Two.mono : ∀ a0 a1 a2 a3 a4 k, LeO (pascalineref10_Two.f k a0 a1 a2 a3 a4) (pascalineref10_Two.f (k + 1) a0 a1 a2 a3 a4) := by
  intro a0 a1 a2 a3 a4 k
  obtain ⟨ih0, ih1, ih2, ih3, ih4, ih5⟩ := pascalineref10_Two.mono_l k
  unfold pascalineref10_Two.f
  repeat' first
      | (with_reducible exact ih0 _ _ _ _ _ _ _)
      | (with_reducible exact ih1 _ _ _ _ _ _)
      | (with_reducible exact ih2 _ _ _ _ _ _ _)
      | (with_reducible exact ih3 _ _ _ _ _ _)
      | (with_reducible exact ih4 _ _ _ _ _ _)
      | (with_reducible exact ih5 _ _ _ _ _ _)
      | (with_reducible exact LeO.refl _)
      | (with_reducible exact LeO.none _)
      | (with_reducible refine LeO.ite ?_ ?_)
      | (with_reducible refine LeO.bind ?_ (fun _ => ?_))
      | exact ih0 _ _ _ _ _ _ _
      | exact ih1 _ _ _ _ _ _
      | exact ih2 _ _ _ _ _ _ _
      | exact ih3 _ _ _ _ _ _
      | exact ih4 _ _ _ _ _ _
      | exact ih5 _ _ _ _ _ _
      | exact LeO.none _
      | refine LeO.ite ?_ ?_
      | refine LeO.bind ?_ (fun _ => ?_)
set_option maxHeartbeats 8000000 in
set_option maxRecDepth 100000 in
theorem pascalineref10_Two.calls (k : Nat) (a0 : ByteArray) (a1_0 : Int) (a1_1 : Int) (a2_0 : Int) (a2_1 : Int) (r1 : Int) (r2 : Int) (r3 : Int) (w : World) (h : pascalineref10_Two.f k a0 a1_0 a1_1 a2_0 a2_1 = some (r1, r2, r3)) :
    Calls Try.prog 10 #[.string a0, .agg #[.int .i64 a1_0, .int .i32 a1_1], .agg #[.int .i64 a2_0, .int .i32 a2_1]] w fun e w' => e = .returned (.tuple #[.agg #[.int .i64 r1, .int .i32 r2], .int .i64 r3]) ∧ Below w.heap.size w w' := by
  have hu28 := Try.underlying28
  have HB := Aside0.mk (Below.refl w.heap.size w)
  have H : (if a0.toList = ([43] : List UInt8) then (pascalineref10_Two.j0 k a0 a0 (a0.toList == ([43] : List UInt8)) a1_0 a1_1 a2_0 a2_1) else (if a0.toList = ([45] : List UInt8) then (pascalineref10_Two.j0 k a0 a0 (a0.toList == ([45] : List UInt8)) a1_0 a1_1 a2_0 a2_1) else (if a0.toList = ([42] : List UInt8) then (pascalineref10_Two.j0 k a0 a0 (a0.toList == ([42] : List UInt8)) a1_0 a1_1 a2_0 a2_1) else (if a0.toList = ([68, 73, 86] : List UInt8) then (pascalineref10_Two.j0 k a0 a0 (a0.toList == ([68, 73, 86] : List UInt8)) a1_0 a1_1 a2_0 a2_1) else (pascalineref10_Two.j0 k a0 a0 (a0.toList == ([77, 79, 68] : List UInt8)) a1_0 a1_1 a2_0 a2_1))))) = some (r1, r2, r3) := h
  clear h
  have HC4 := Aside0.mk H
  clear H
  go_enter Try.func10, Try.ntmps10
  go_upto_if 12 with (first | ((with_reducible refine gate_dst (N := 4) rfl ?_); refine box_event ?hg (N := 4) ?hd (cs := #[.int .i64 a1_0, .int .i32 a1_1]) (t := 28) ?hr ?_; (case hd => rfl); (case hg => rfl); (case hr => first | (go_simp; done) | (go_simp; rfl)); intro gb209 hg w5 hbox hb; have n0_ := Aside0.mk (below_step (by repeat (first | (with_reducible first | exact HB.out | apply below_alloc | apply pw_below_drewN | apply below_drew1) | exact HB.out)) hb); have n1_ := Aside0.mk (hbox); have n2_ := Aside0.mk ((by rw [hg]; exact (below_size (by repeat (first | (with_reducible first | exact HB.out | apply below_alloc | apply pw_below_drewN | apply below_drew1) | exact HB.out))) : w.heap.size ≤ gb209)); have n3_ := Aside0.mk ((by rw [hg]; exact (below_size (by repeat (first | (with_reducible first | exact HB.out | apply below_alloc | apply pw_below_drewN | apply below_drew1) | exact HB.out))) : w.heap.size ≤ gb209)); clear HB; have HB := n0_; have BK209 := n1_; have GW209 := n2_; have GE209 := n3_; clear n0_ n1_ n2_ n3_; clear hb hbox hg) | ((with_reducible refine gate_dst (N := 5) rfl ?_); refine box_event ?hg (N := 5) ?hd (cs := #[.int .i64 a2_0, .int .i32 a2_1]) (t := 28) ?hr ?_; (case hd => rfl); (case hg => rfl); (case hr => first | (go_simp; done) | (go_simp; rfl)); intro gb210 hg w6 hbox hb; have n0_ := Aside0.mk (blk_below (g := gb209) (o := .cells #[.int .i64 a1_0, .int .i32 a1_1] 28 (0, 0)) (by (with_reducible repeat (first | refine blk_drewN ?_ _ | refine blk_drew ?_ | refine blk_alloc ?_ _)); exact BK209.out) hb); have n1_ := Aside0.mk (below_step (by repeat (first | (with_reducible first | exact HB.out | apply below_alloc | apply pw_below_drewN | apply below_drew1 | refine below_set ?_ GE209.out) | exact HB.out)) hb); have n2_ := Aside0.mk (hbox); have n3_ := Aside0.mk ((by rw [hg]; exact (below_size (by repeat (first | (with_reducible first | exact HB.out | apply below_alloc | apply pw_below_drewN | apply below_drew1 | refine below_set ?_ GE209.out) | exact HB.out))) : w.heap.size ≤ gb210)); have n4_ := Aside0.mk ((by rw [hg]; exact (below_size (by repeat (first | (with_reducible first | exact HB.out | apply below_alloc | apply pw_below_drewN | apply below_drew1 | refine below_set ?_ GE209.out) | exact HB.out))) : w.heap.size ≤ gb210)); have n5_ := Aside0.mk ((by rw [hg]; exact Nat.ne_of_lt (blk_lt (g := gb209) (o := .cells #[.int .i64 a1_0, .int .i32 a1_1] 28 (0, 0)) (by (with_reducible repeat (first | refine blk_drewN ?_ _ | refine blk_drew ?_ | refine blk_alloc ?_ _)); exact BK209.out)) : gb209 ≠ gb210)); have n6_ := Aside0.mk ((by rw [hg]; exact Nat.ne_of_gt (blk_lt (g := gb209) (o := .cells #[.int .i64 a1_0, .int .i32 a1_1] 28 (0, 0)) (by (with_reducible repeat (first | refine blk_drewN ?_ _ | refine blk_drew ?_ | refine blk_alloc ?_ _)); exact BK209.out)) : gb210 ≠ gb209)); clear BK209; clear HB; have BK209 := n0_; have HB := n1_; have BK210 := n2_; have GW210 := n3_; have GE210 := n4_; have NB209_210 := n5_; have NB210_209 := n6_; clear n0_ n1_ n2_ n3_ n4_ n5_ n6_; clear hb hbox hg) | ((with_reducible refine gate_dst (N := 6) rfl ?_); refine box_event ?hg (N := 6) ?hd (cs := #[.int .i64 0, .int .i32 0]) (t := 28) ?hr ?_; (case hd => rfl); (case hg => rfl); (case hr => first | (go_simp; done) | (go_simp; rfl)); intro gb211 hg w7 hbox hb; have n0_ := Aside0.mk (blk_below (g := gb209) (o := .cells #[.int .i64 a1_0, .int .i32 a1_1] 28 (0, 0)) (by (with_reducible repeat (first | refine blk_drewN ?_ _ | refine blk_drew ?_ | refine blk_alloc ?_ _)); exact BK209.out) hb); have n1_ := Aside0.mk (blk_below (g := gb210) (o := .cells #[.int .i64 a2_0, .int .i32 a2_1] 28 (0, 0)) (by (with_reducible repeat (first | refine blk_drewN ?_ _ | refine blk_drew ?_ | refine blk_alloc ?_ _)); exact BK210.out) hb); have n2_ := Aside0.mk (below_step (by repeat (first | (with_reducible first | exact HB.out | apply below_alloc | apply pw_below_drewN | apply below_drew1 | refine below_set ?_ GE209.out | refine below_set ?_ GE210.out) | exact HB.out)) hb); have n3_ := Aside0.mk (hbox); have n4_ := Aside0.mk ((by rw [hg]; exact (below_size (by repeat (first | (with_reducible first | exact HB.out | apply below_alloc | apply pw_below_drewN | apply below_drew1 | refine below_set ?_ GE209.out | refine below_set ?_ GE210.out) | exact HB.out))) : w.heap.size ≤ gb211)); have n5_ := Aside0.mk ((by rw [hg]; exact (below_size (by repeat (first | (with_reducible first | exact HB.out | apply below_alloc | apply pw_below_drewN | apply below_drew1 | refine below_set ?_ GE209.out | refine below_set ?_ GE210.out) | exact HB.out))) : w.heap.size ≤ gb211)); have n6_ := Aside0.mk ((by rw [hg]; exact Nat.ne_of_lt (blk_lt (g := gb209) (o := .cells #[.int .i64 a1_0, .int .i32 a1_1] 28 (0, 0)) (by (with_reducible repeat (first | refine blk_drewN ?_ _ | refine blk_drew ?_ | refine blk_alloc ?_ _)); exact BK209.out)) : gb209 ≠ gb211)); have n7_ := Aside0.mk ((by rw [hg]; exact Nat.ne_of_gt (blk_lt (g := gb209) (o := .cells #[.int .i64 a1_0, .int .i32 a1_1] 28 (0, 0)) (by (with_reducible repeat (first | refine blk_drewN ?_ _ | refine blk_drew ?_ | refine blk_alloc ?_ _)); exact BK209.out)) : gb211 ≠ gb209)); have n8_ := Aside0.mk ((by rw [hg]; exact Nat.ne_of_lt (blk_lt (g := gb210) (o := .cells #[.int .i64 a2_0, .int .i32 a2_1] 28 (0, 0)) (by (with_reducible repeat (first | refine blk_drewN ?_ _ | refine blk_drew ?_ | refine blk_alloc ?_ _)); exact BK210.out)) : gb210 ≠ gb211)); have n9_ := Aside0.mk ((by rw [hg]; exact Nat.ne_of_gt (blk_lt (g := gb210) (o := .cells #[.int .i64 a2_0, .int .i32 a2_1] 28 (0, 0)) (by (with_reducible repeat (first | refine blk_drewN ?_ _ | refine blk_drew ?_ | refine blk_alloc ?_ _)); exact BK210.out)) : gb211 ≠ gb210)); clear BK209; clear BK210; clear HB; have BK209 := n0_; have BK210 := n1_; have HB := n2_; have BK211 := n3_; have GW211 := n4_; have GE211 := n5_; have NB209_211 := n6_; have NB211_209 := n7_; have NB210_211 := n8_; have NB211_210 := n9_; clear n0_ n1_ n2_ n3_ n4_ n5_ n6_ n7_ n8_ n9_; clear hb hbox hg))
  (try simp only [Act.put, List.setIfInBounds_toArray, List.set_cons_zero, List.set_cons_succ])
  go_cut [12] (fun v12 wc => ∃ (kq : Nat) (x12_3 : Bool), v12 = .bool x12_3 ∧ Aside0 (pascalineref10_Two.j0 kq a0 a0 x12_3 a1_0 a1_1 a2_0 a2_1 = some (r1, r2, r3)) ∧ Aside0 (kq ≤ k) ∧ Aside0 (wc.heap[gb209]? = some (.cells #[.int .i64 a1_0, .int .i32 a1_1] 28 (0, 0))) ∧ Aside0 (wc.heap[gb210]? = some (.cells #[.int .i64 a2_0, .int .i32 a2_1] 28 (0, 0))) ∧ Aside0 (wc.heap[gb211]? = some (.cells #[.int .i64 0, .int .i32 0] 28 (0, 0))) ∧ Aside0 (Below w.heap.size w wc))
  case first =>
    have H := HC4.out
    clear HC4
    by_cases c8 : a0.toList = ([43] : List UInt8)
    · rw [if_pos c8] at H
      have c8b0 : (a0.toList == ([43] : List UInt8)) = true := beq_iff_eq.mpr c8
      have c8b1 : (a0.toList != ([43] : List UInt8)) = false := bne_eq_false_iff_eq.mpr c8
      clear c8
      (first | rw [c8b0] | (simp only [i64_w, i32_w]; rw [c8b0]) | skip)
      have H' := Aside0.mk H
      clear H
      go_wp2
      go_meet
      case rel => exact ⟨_, ((a0.toList == ([43] : List UInt8))), (by first | rfl | (simp; done) | (simp [*]; done)), H', ⟨by first | omega | exact Nat.le_refl _⟩, ⟨by (with_reducible repeat (first | refine blk_drewN ?_ _ | refine blk_drew ?_ | refine blk_alloc ?_ _)); exact BK209.out⟩, ⟨by (with_reducible repeat (first | refine blk_drewN ?_ _ | refine blk_drew ?_ | refine blk_alloc ?_ _)); exact BK210.out⟩, ⟨by (with_reducible repeat (first | refine blk_drewN ?_ _ | refine blk_drew ?_ | refine blk_alloc ?_ _)); exact BK211.out⟩, ⟨by repeat (first | (with_reducible first | exact HB.out | apply below_alloc | apply pw_below_drewN | apply below_drew1 | refine below_set ?_ GE209.out | refine below_set ?_ GE210.out | refine below_set ?_ GE211.out) | exact HB.out)⟩⟩
    · rw [if_neg c8] at H
      have c8b0 : (a0.toList == ([43] : List UInt8)) = false := beq_eq_false_iff_ne.mpr c8
      have c8b1 : (a0.toList != ([43] : List UInt8)) = true := bne_iff_ne.mpr c8
      (first | rw [c8b0] | (simp only [i64_w, i32_w]; rw [c8b0]) | skip)
      by_cases c9 : a0.toList = ([45] : List UInt8)
      · rw [if_pos c9] at H
        have c9b0 : (a0.toList == ([45] : List UInt8)) = true := beq_iff_eq.mpr c9
        have c9b1 : (a0.toList != ([45] : List UInt8)) = false := bne_eq_false_iff_eq.mpr c9
        clear c9
        have H' := Aside0.mk H
        clear H
        go_wp2
        go_meet
        case rel => exact ⟨_, ((a0.toList == ([45] : List UInt8))), (by first | rfl | (simp; done) | (simp [*]; done)), H', ⟨by first | omega | exact Nat.le_refl _⟩, ⟨by (with_reducible repeat (first | refine blk_drewN ?_ _ | refine blk_drew ?_ | refine blk_alloc ?_ _)); exact BK209.out⟩, ⟨by (with_reducible repeat (first | refine blk_drewN ?_ _ | refine blk_drew ?_ | refine blk_alloc ?_ _)); exact BK210.out⟩, ⟨by (with_reducible repeat (first | refine blk_drewN ?_ _ | refine blk_drew ?_ | refine blk_alloc ?_ _)); exact BK211.out⟩, ⟨by repeat (first | (with_reducible first | exact HB.out | apply below_alloc | apply pw_below_drewN | apply below_drew1 | refine below_set ?_ GE209.out | refine below_set ?_ GE210.out | refine below_set ?_ GE211.out) | exact HB.out)⟩⟩
      · rw [if_neg c9] at H
        have c9b0 : (a0.toList == ([45] : List UInt8)) = false := beq_eq_false_iff_ne.mpr c9
        have c9b1 : (a0.toList != ([45] : List UInt8)) = true := bne_iff_ne.mpr c9
        by_cases c10 : a0.toList = ([42] : List UInt8)
        · rw [if_pos c10] at H
          have c10b0 : (a0.toList == ([42] : List UInt8)) = true := beq_iff_eq.mpr c10
          have c10b1 : (a0.toList != ([42] : List UInt8)) = false := bne_eq_false_iff_eq.mpr c10
          clear c10
          have H' := Aside0.mk H
          clear H
          go_wp2
          go_meet
          case rel => exact ⟨_, ((a0.toList == ([42] : List UInt8))), (by first | rfl | (simp; done) | (simp [*]; done)), H', ⟨by first | omega | exact Nat.le_refl _⟩, ⟨by (with_reducible repeat (first | refine blk_drewN ?_ _ | refine blk_drew ?_ | refine blk_alloc ?_ _)); exact BK209.out⟩, ⟨by (with_reducible repeat (first | refine blk_drewN ?_ _ | refine blk_drew ?_ | refine blk_alloc ?_ _)); exact BK210.out⟩, ⟨by (with_reducible repeat (first | refine blk_drewN ?_ _ | refine blk_drew ?_ | refine blk_alloc ?_ _)); exact BK211.out⟩, ⟨by repeat (first | (with_reducible first | exact HB.out | apply below_alloc | apply pw_below_drewN | apply below_drew1 | refine below_set ?_ GE209.out | refine below_set ?_ GE210.out | refine below_set ?_ GE211.out) | exact HB.out)⟩⟩
        · rw [if_neg c10] at H
          have c10b0 : (a0.toList == ([42] : List UInt8)) = false := beq_eq_false_iff_ne.mpr c10
          have c10b1 : (a0.toList != ([42] : List UInt8)) = true := bne_iff_ne.mpr c10
          by_cases c11 : a0.toList = ([68, 73, 86] : List UInt8)
          · rw [if_pos c11] at H
            have c11b0 : (a0.toList == ([68, 73, 86] : List UInt8)) = true := beq_iff_eq.mpr c11
            have c11b1 : (a0.toList != ([68, 73, 86] : List UInt8)) = false := bne_eq_false_iff_eq.mpr c11
            clear c11
            have H' := Aside0.mk H
            clear H
            go_wp2
            go_meet
            case rel => exact ⟨_, ((a0.toList == ([68, 73, 86] : List UInt8))), (by first | rfl | (simp; done) | (simp [*]; done)), H', ⟨by first | omega | exact Nat.le_refl _⟩, ⟨by (with_reducible repeat (first | refine blk_drewN ?_ _ | refine blk_drew ?_ | refine blk_alloc ?_ _)); exact BK209.out⟩, ⟨by (with_reducible repeat (first | refine blk_drewN ?_ _ | refine blk_drew ?_ | refine blk_alloc ?_ _)); exact BK210.out⟩, ⟨by (with_reducible repeat (first | refine blk_drewN ?_ _ | refine blk_drew ?_ | refine blk_alloc ?_ _)); exact BK211.out⟩, ⟨by repeat (first | (with_reducible first | exact HB.out | apply below_alloc | apply pw_below_drewN | apply below_drew1 | refine below_set ?_ GE209.out | refine below_set ?_ GE210.out | refine below_set ?_ GE211.out) | exact HB.out)⟩⟩
          · rw [if_neg c11] at H
            have c11b0 : (a0.toList == ([68, 73, 86] : List UInt8)) = false := beq_eq_false_iff_ne.mpr c11
            have c11b1 : (a0.toList != ([68, 73, 86] : List UInt8)) = true := bne_iff_ne.mpr c11
            have H' := Aside0.mk H
            clear H
            go_wp2
            go_meet
            case rel => exact ⟨_, ((a0.toList == ([77, 79, 68] : List UInt8))), (by first | rfl | (simp; done) | (simp [*]; done)), H', ⟨by first | omega | exact Nat.le_refl _⟩, ⟨by (with_reducible repeat (first | refine blk_drewN ?_ _ | refine blk_drew ?_ | refine blk_alloc ?_ _)); exact BK209.out⟩, ⟨by (with_reducible repeat (first | refine blk_drewN ?_ _ | refine blk_drew ?_ | refine blk_alloc ?_ _)); exact BK210.out⟩, ⟨by (with_reducible repeat (first | refine blk_drewN ?_ _ | refine blk_drew ?_ | refine blk_alloc ?_ _)); exact BK211.out⟩, ⟨by repeat (first | (with_reducible first | exact HB.out | apply below_alloc | apply pw_below_drewN | apply below_drew1 | refine below_set ?_ GE209.out | refine below_set ?_ GE210.out | refine below_set ?_ GE211.out) | exact HB.out)⟩⟩
  case rest =>
    clear HC4
    try clear c1
    try clear p2
    try clear c8
    try clear c8b0
    try clear c8b1
    try clear c9
    try clear c9b0
    try clear c9b1
    try clear c10
    try clear c10b0
    try clear c10b1
    try clear c11
    try clear c11b0
    try clear c11b1
    obtain ⟨kq, x12_3, rfl, HA, HJ3, BK209, BK210, BK211, HB⟩ := hcut
    cases kq with
    | zero => exact absurd HA.out (by simp [pascalineref10_Two.j0])
    | succ kj3 =>
      have H := HA.out
      clear HA
      simp only [pascalineref10_Two.j0] at H
      by_cases c12 : x12_3 = true
      · subst c12
        have H1 : (if a1_0 = 1 then (pascalineref10_Two.j1 kj3 a0 (a2_0 != 1) a1_0 a1_1 a2_0 a2_1) else (pascalineref10_Two.j1 kj3 a0 true a1_0 a1_1 a2_0 a2_1)) = some (r1, r2, r3) := by rw [if_pos rfl] at H; exact H
        clear H
        have H := H1
        clear H1
        have HC13 := Aside0.mk H
        clear H
        go_upto_region 8 with (fail)
        go_cut [25] (fun v25 wc => ∃ (kq : Nat) (x25_12 : Bool), v25 = .bool x25_12 ∧ Aside0 (pascalineref10_Two.j1 kq a0 x25_12 a1_0 a1_1 a2_0 a2_1 = some (r1, r2, r3)) ∧ Aside0 (kq ≤ kj3) ∧ Aside0 (wc.heap[gb209]? = some (.cells #[.int .i64 a1_0, .int .i32 a1_1] 28 (0, 0))) ∧ Aside0 (wc.heap[gb210]? = some (.cells #[.int .i64 a2_0, .int .i32 a2_1] 28 (0, 0))) ∧ Aside0 (wc.heap[gb211]? = some (.cells #[.int .i64 0, .int .i32 0] 28 (0, 0))) ∧ Aside0 (Below w.heap.size w wc))
        case first =>
          have H := HC13.out
          clear HC13
          by_cases c14 : a1_0 = 1
          · rw [if_pos c14] at H
            have c14b0 : (a1_0 == 1) = true := beq_iff_eq.mpr c14
            have c14b1 : (a1_0 != 1) = false := bne_eq_false_iff_eq.mpr c14
            clear c14
            (first | rw [c14b0] | (simp only [i64_w, i32_w]; rw [c14b0]) | skip)
            have H' := Aside0.mk H
            clear H
            have hnb15 := NB209_210.out
            have hnc15 := NB210_209.out
            have hnb16 := NB209_211.out
            have hnc16 := NB211_209.out
            have hcz17_0 : wc.cell? ⟨gb209, 0, none⟩ = some (.int .i64 a1_0) := (blk_cell BK209.out 0).trans rfl
            have hcz17_1 : wc.cell? ⟨gb209, 1, none⟩ = some (.int .i32 a1_1) := (blk_cell BK209.out 1).trans rfl
            have hfz17_0 := blk_frozen BK209.out 0
            have hfz17_1 := blk_frozen BK209.out 1
            have hnb18 := NB210_211.out
            have hnc18 := NB211_210.out
            have hcz19_0 : wc.cell? ⟨gb210, 0, none⟩ = some (.int .i64 a2_0) := (blk_cell BK210.out 0).trans rfl
            have hcz19_1 : wc.cell? ⟨gb210, 1, none⟩ = some (.int .i32 a2_1) := (blk_cell BK210.out 1).trans rfl
            have hfz19_0 := blk_frozen BK210.out 0
            have hfz19_1 := blk_frozen BK210.out 1
            go_wp2
            go_meet
            case rel => exact ⟨_, ((a2_0 != 1)), (by first | rfl | (simp; done) | (simp [*]; done)), H', ⟨by have := HJ3.out; first | omega | exact Nat.le_refl _⟩, ⟨by (with_reducible repeat (first | refine blk_drewN ?_ _ | refine blk_drew ?_ | refine blk_alloc ?_ _)); exact BK209.out⟩, ⟨by (with_reducible repeat (first | refine blk_drewN ?_ _ | refine blk_drew ?_ | refine blk_alloc ?_ _)); exact BK210.out⟩, ⟨by (with_reducible repeat (first | refine blk_drewN ?_ _ | refine blk_drew ?_ | refine blk_alloc ?_ _)); exact BK211.out⟩, ⟨by repeat (first | (with_reducible first | exact HB.out | apply below_alloc | apply pw_below_drewN | apply below_drew1 | refine below_set ?_ GE209.out | refine below_set ?_ GE210.out | refine below_set ?_ GE211.out) | exact HB.out)⟩⟩
          · rw [if_neg c14] at H
            have c14b0 : (a1_0 == 1) = false := beq_eq_false_iff_ne.mpr c14
            have c14b1 : (a1_0 != 1) = true := bne_iff_ne.mpr c14
            (first | rw [c14b0] | (simp only [i64_w, i32_w]; rw [c14b0]) | skip)
            have H' := Aside0.mk H
            clear H
            have hnb20 := NB209_210.out
            have hnc20 := NB210_209.out
            have hnb21 := NB209_211.out
            have hnc21 := NB211_209.out
            have hcz22_0 : wc.cell? ⟨gb209, 0, none⟩ = some (.int .i64 a1_0) := (blk_cell BK209.out 0).trans rfl
            have hcz22_1 : wc.cell? ⟨gb209, 1, none⟩ = some (.int .i32 a1_1) := (blk_cell BK209.out 1).trans rfl
            have hfz22_0 := blk_frozen BK209.out 0
            have hfz22_1 := blk_frozen BK209.out 1
            go_wp2
            go_meet
            case rel => exact ⟨_, (true), (by first | rfl | (simp; done) | (simp [*]; done)), H', ⟨by have := HJ3.out; first | omega | exact Nat.le_refl _⟩, ⟨by (with_reducible repeat (first | refine blk_drewN ?_ _ | refine blk_drew ?_ | refine blk_alloc ?_ _)); exact BK209.out⟩, ⟨by (with_reducible repeat (first | refine blk_drewN ?_ _ | refine blk_drew ?_ | refine blk_alloc ?_ _)); exact BK210.out⟩, ⟨by (with_reducible repeat (first | refine blk_drewN ?_ _ | refine blk_drew ?_ | refine blk_alloc ?_ _)); exact BK211.out⟩, ⟨by repeat (first | (with_reducible first | exact HB.out | apply below_alloc | apply pw_below_drewN | apply below_drew1 | refine below_set ?_ GE209.out | refine below_set ?_ GE210.out | refine below_set ?_ GE211.out) | exact HB.out)⟩⟩
        case rest =>
          clear HC13
          try clear c1
          try clear c2
          try clear p2
          try clear c8
          try clear c8b0
          try clear c8b1
          try clear c9
          try clear c9b0
          try clear c9b1
          try clear c10
          try clear c10b0
          try clear c10b1
          try clear c11
          try clear c11b0
          try clear c11b1
          try clear c12
          try clear c14
          try clear c14b0
          try clear c14b1
          try clear c15
          try clear c16
          try clear c18
          try clear c20
          try clear c21
          try clear hcz17_0
          try clear hcz17_1
          try clear hcz19_0
          try clear hcz19_1
          try clear hcz22_0
          try clear hcz22_1
          try clear hfz17_0
          try clear hfz17_1
          try clear hfz19_0
          try clear hfz19_1
          try clear hfz22_0
          try clear hfz22_1
          try clear p2
          obtain ⟨kq, x25_12, rfl, HA, HJ12, BK209, BK210, BK211, HB⟩ := hcut
          cases kq with
          | zero => exact absurd HA.out (by simp [pascalineref10_Two.j1])
          | succ kj12 =>
            have H := HA.out
            clear HA
            simp only [pascalineref10_Two.j1] at H
            by_cases c23 : x25_12 = true
            · subst c23
              have H1 : (some (0, 0, 91)) = some (r1, r2, r3) := by rw [if_pos rfl] at H; exact H
              clear H
              have H := H1
              clear H1
              simp only [Option.some.injEq, Prod.mk.injEq] at H
              obtain ⟨rfl, rfl, rfl⟩ := H
              have hnb24 := NB211_209.out
              have hnc24 := NB209_211.out
              have hnb25 := NB211_210.out
              have hnc25 := NB210_211.out
              have hcz26_0 : wc.cell? ⟨gb211, 0, none⟩ = some (.int .i64 0) := (blk_cell BK211.out 0).trans rfl
              have hcz26_1 : wc.cell? ⟨gb211, 1, none⟩ = some (.int .i32 0) := (blk_cell BK211.out 1).trans rfl
              have hfz26_0 := blk_frozen BK211.out 0
              have hfz26_1 := blk_frozen BK211.out 1
              go_wp2
              refine bodyPost_ret (results_ct rfl _ _ gb211 28 #[.int .i64 0, .int .i32 0] (0, 0) _ rfl (by (with_reducible repeat (first | refine blk_drewN ?_ _ | refine blk_drew ?_ | refine blk_alloc ?_ _)); refine blk_put (cs := #[.int .i64 0, .int .i32 0]) ?_ 1 _ rfl; (with_reducible repeat (first | refine blk_drewN ?_ _ | refine blk_drew ?_ | refine blk_alloc ?_ _)); refine blk_put (cs := #[.int .i64 0, .int .i32 0]) ?_ 0 _ rfl; (with_reducible repeat (first | refine blk_drewN ?_ _ | refine blk_drew ?_ | refine blk_alloc ?_ _)); exact BK211.out) Try.underlying28 rfl (by kernel_rfl)) rfl ?_
              exact ⟨by first | rfl | (simp [errW_none, errW_some] <;> rfl) | (simp [*, errW_none, errW_some] <;> rfl), by repeat (first | (with_reducible first | exact HB.out | apply below_alloc | apply pw_below_drewN | apply below_drew1 | refine below_set ?_ GE209.out | refine below_set ?_ GE210.out | refine below_set ?_ GE211.out) | exact HB.out)⟩
            · replace c23 := Bool.eq_false_iff.mpr c23
              subst c23
              have H1 : ((pascalineref10_Reckon.f a0 a1_1 a2_1).bind fun bt212 => (if bt212.2 = true then (some (1, bt212.1, 0)) else (some (0, 0, 10)))) = some (r1, r2, r3) := by rw [if_neg (show ¬ (false = true) by decide)] at H; exact H
              clear H
              have H := H1
              clear H1
              replace H := Option.bind_eq_some_iff.mp H
              obtain ⟨⟨t212, t213⟩, A270, H⟩ := H
              replace H : (if t213 = true then (some (1, t212, 0)) else (some (0, 0, 10))) = some (r1, r2, r3) := H
              have A27 := Aside0.mk A270
              clear A270
              by_cases c28 : t213 = true
              · subst c28
                have H1 : (some (1, t212, 0)) = some (r1, r2, r3) := by rw [if_pos rfl] at H; exact H
                clear H
                have H := H1
                clear H1
                simp only [Option.some.injEq, Prod.mk.injEq] at H
                obtain ⟨rfl, rfl, rfl⟩ := H
                have hnb29 := NB209_210.out
                have hnc29 := NB210_209.out
                have hnb30 := NB209_211.out
                have hnc30 := NB211_209.out
                have hcz31_0 : wc.cell? ⟨gb209, 0, none⟩ = some (.int .i64 a1_0) := (blk_cell BK209.out 0).trans rfl
                have hcz31_1 : wc.cell? ⟨gb209, 1, none⟩ = some (.int .i32 a1_1) := (blk_cell BK209.out 1).trans rfl
                have hfz31_0 := blk_frozen BK209.out 0
                have hfz31_1 := blk_frozen BK209.out 1
                have hnb32 := NB210_211.out
                have hnc32 := NB211_210.out
                have hcz33_0 : wc.cell? ⟨gb210, 0, none⟩ = some (.int .i64 a2_0) := (blk_cell BK210.out 0).trans rfl
                have hcz33_1 : wc.cell? ⟨gb210, 1, none⟩ = some (.int .i32 a2_1) := (blk_cell BK210.out 1).trans rfl
                have hfz33_0 := blk_frozen BK210.out 0
                have hfz33_1 := blk_frozen BK210.out 1
                go_wp2_with (first | ((with_reducible refine gate_callee (f := 21) rfl ?_); refine goesL_ (some 33) rfl rfl Try.func21 (by kernel_rfl) rfl #[.string a0, .int .i32 a1_1, .int .i32 a2_1] rfl (by (try simp only [List.map_toArray, List.map_cons, List.map_nil]); first | done | rfl | (simp only [List.length_drop, List.length_take]; rfl)) ?_; (with_reducible refine (pascalineref10_Reckon.calls a0 a1_1 a2_1 t212 true _ A27.out).mono ?_); rintro e w' ⟨rfl, ⟨nd, rfl⟩⟩; refine ⟨_, rfl, ?_⟩; (try (rw [drewN_self wc]; generalize hq_ : World.drewN wc _ = wc; have n0_ : Aside0 (wc.heap[gb209]? = some (.cells #[.int .i64 a1_0, .int .i32 a1_1] 28 (0, 0))) := ⟨by rw [← hq_]; exact (by (with_reducible repeat (first | refine blk_drewN ?_ _ | refine blk_drew ?_ | refine blk_alloc ?_ _)); exact BK209.out)⟩; have n1_ : Aside0 (wc.heap[gb210]? = some (.cells #[.int .i64 a2_0, .int .i32 a2_1] 28 (0, 0))) := ⟨by rw [← hq_]; exact (by (with_reducible repeat (first | refine blk_drewN ?_ _ | refine blk_drew ?_ | refine blk_alloc ?_ _)); exact BK210.out)⟩; have n2_ : Aside0 (wc.heap[gb211]? = some (.cells #[.int .i64 0, .int .i32 0] 28 (0, 0))) := ⟨by rw [← hq_]; exact (by (with_reducible repeat (first | refine blk_drewN ?_ _ | refine blk_drew ?_ | refine blk_alloc ?_ _)); exact BK211.out)⟩; have n3_ : Aside0 (Below w.heap.size w wc) := ⟨by rw [← hq_]; exact (by repeat (first | (with_reducible first | exact HB.out | apply below_alloc | apply pw_below_drewN | apply below_drew1 | refine below_set ?_ GE209.out | refine below_set ?_ GE210.out | refine below_set ?_ GE211.out) | exact HB.out))⟩; clear BK209 BK210 BK211 HB hq_; have BK209 := n0_; have BK210 := n1_; have BK211 := n2_; have HB := n3_; clear n0_ n1_ n2_ n3_)); have hcz34_0 : wc.cell? ⟨gb211, 0, none⟩ = some (.int .i64 0) := (blk_cell BK211.out 0).trans rfl; have hcz34_1 : wc.cell? ⟨gb211, 1, none⟩ = some (.int .i32 0) := (blk_cell BK211.out 1).trans rfl; have hfz34_0 := blk_frozen BK211.out 0; have hfz34_1 := blk_frozen BK211.out 1))
                refine bodyPost_ret (results_ct rfl _ _ gb211 28 #[.int .i64 1, .int .i32 t212] (0, 0) _ rfl (by (with_reducible repeat (first | refine blk_drewN ?_ _ | refine blk_drew ?_ | refine blk_alloc ?_ _)); refine blk_put (cs := #[.int .i64 1, .int .i32 0]) ?_ 1 _ rfl; (with_reducible repeat (first | refine blk_drewN ?_ _ | refine blk_drew ?_ | refine blk_alloc ?_ _)); refine blk_put (cs := #[.int .i64 0, .int .i32 0]) ?_ 0 _ rfl; (with_reducible repeat (first | refine blk_drewN ?_ _ | refine blk_drew ?_ | refine blk_alloc ?_ _)); exact BK211.out) Try.underlying28 rfl (by kernel_rfl)) rfl ?_
                exact ⟨by first | rfl | (simp [errW_none, errW_some] <;> rfl) | (simp [*, errW_none, errW_some] <;> rfl), by repeat (first | (with_reducible first | exact HB.out | apply below_alloc | apply pw_below_drewN | apply below_drew1 | refine below_set ?_ GE209.out | refine below_set ?_ GE210.out | refine below_set ?_ GE211.out) | exact HB.out)⟩
              · replace c28 := Bool.eq_false_iff.mpr c28
                subst c28
                have H1 : (some (0, 0, 10)) = some (r1, r2, r3) := by rw [if_neg (show ¬ (false = true) by decide)] at H; exact H
                clear H
                have H := H1
                clear H1
                simp only [Option.some.injEq, Prod.mk.injEq] at H
                obtain ⟨rfl, rfl, rfl⟩ := H
                have hnb35 := NB209_210.out
                have hnc35 := NB210_209.out
                have hnb36 := NB209_211.out
                have hnc36 := NB211_209.out
                have hcz37_0 : wc.cell? ⟨gb209, 0, none⟩ = some (.int .i64 a1_0) := (blk_cell BK209.out 0).trans rfl
                have hcz37_1 : wc.cell? ⟨gb209, 1, none⟩ = some (.int .i32 a1_1) := (blk_cell BK209.out 1).trans rfl
                have hfz37_0 := blk_frozen BK209.out 0
                have hfz37_1 := blk_frozen BK209.out 1
                have hnb38 := NB210_211.out
                have hnc38 := NB211_210.out
                have hcz39_0 : wc.cell? ⟨gb210, 0, none⟩ = some (.int .i64 a2_0) := (blk_cell BK210.out 0).trans rfl
                have hcz39_1 : wc.cell? ⟨gb210, 1, none⟩ = some (.int .i32 a2_1) := (blk_cell BK210.out 1).trans rfl
                have hfz39_0 := blk_frozen BK210.out 0
                have hfz39_1 := blk_frozen BK210.out 1
                go_wp2_with (first | ((with_reducible refine gate_callee (f := 21) rfl ?_); refine goesL_ (some 33) rfl rfl Try.func21 (by kernel_rfl) rfl #[.string a0, .int .i32 a1_1, .int .i32 a2_1] rfl (by (try simp only [List.map_toArray, List.map_cons, List.map_nil]); first | done | rfl | (simp only [List.length_drop, List.length_take]; rfl)) ?_; (with_reducible refine (pascalineref10_Reckon.calls a0 a1_1 a2_1 t212 false _ A27.out).mono ?_); rintro e w' ⟨rfl, ⟨nd, rfl⟩⟩; refine ⟨_, rfl, ?_⟩; (try (rw [drewN_self wc]; generalize hq_ : World.drewN wc _ = wc; have n0_ : Aside0 (wc.heap[gb209]? = some (.cells #[.int .i64 a1_0, .int .i32 a1_1] 28 (0, 0))) := ⟨by rw [← hq_]; exact (by (with_reducible repeat (first | refine blk_drewN ?_ _ | refine blk_drew ?_ | refine blk_alloc ?_ _)); exact BK209.out)⟩; have n1_ : Aside0 (wc.heap[gb210]? = some (.cells #[.int .i64 a2_0, .int .i32 a2_1] 28 (0, 0))) := ⟨by rw [← hq_]; exact (by (with_reducible repeat (first | refine blk_drewN ?_ _ | refine blk_drew ?_ | refine blk_alloc ?_ _)); exact BK210.out)⟩; have n2_ : Aside0 (wc.heap[gb211]? = some (.cells #[.int .i64 0, .int .i32 0] 28 (0, 0))) := ⟨by rw [← hq_]; exact (by (with_reducible repeat (first | refine blk_drewN ?_ _ | refine blk_drew ?_ | refine blk_alloc ?_ _)); exact BK211.out)⟩; have n3_ : Aside0 (Below w.heap.size w wc) := ⟨by rw [← hq_]; exact (by repeat (first | (with_reducible first | exact HB.out | apply below_alloc | apply pw_below_drewN | apply below_drew1 | refine below_set ?_ GE209.out | refine below_set ?_ GE210.out | refine below_set ?_ GE211.out) | exact HB.out))⟩; clear BK209 BK210 BK211 HB hq_; have BK209 := n0_; have BK210 := n1_; have BK211 := n2_; have HB := n3_; clear n0_ n1_ n2_ n3_)); have hcz40_0 : wc.cell? ⟨gb211, 0, none⟩ = some (.int .i64 0) := (blk_cell BK211.out 0).trans rfl; have hcz40_1 : wc.cell? ⟨gb211, 1, none⟩ = some (.int .i32 0) := (blk_cell BK211.out 1).trans rfl; have hfz40_0 := blk_frozen BK211.out 0; have hfz40_1 := blk_frozen BK211.out 1))
                refine bodyPost_ret (results_ct rfl _ _ gb211 28 #[.int .i64 0, .int .i32 0] (0, 0) _ rfl (by (with_reducible repeat (first | refine blk_drewN ?_ _ | refine blk_drew ?_ | refine blk_alloc ?_ _)); refine blk_put (cs := #[.int .i64 0, .int .i32 0]) ?_ 1 _ rfl; (with_reducible repeat (first | refine blk_drewN ?_ _ | refine blk_drew ?_ | refine blk_alloc ?_ _)); refine blk_put (cs := #[.int .i64 0, .int .i32 0]) ?_ 0 _ rfl; (with_reducible repeat (first | refine blk_drewN ?_ _ | refine blk_drew ?_ | refine blk_alloc ?_ _)); exact BK211.out) Try.underlying28 rfl (by kernel_rfl)) rfl ?_
                exact ⟨by first | rfl | (simp [errW_none, errW_some] <;> rfl) | (simp [*, errW_none, errW_some] <;> rfl), by repeat (first | (with_reducible first | exact HB.out | apply below_alloc | apply pw_below_drewN | apply below_drew1 | refine below_set ?_ GE209.out | refine below_set ?_ GE210.out | refine below_set ?_ GE211.out) | exact HB.out)⟩
      · replace c12 := Bool.eq_false_iff.mpr c12
        subst c12
        have H1 : (if a0.toList = ([65, 78, 68] : List UInt8) then (pascalineref10_Two.j2 kj3 a0 a0 (a0.toList == ([65, 78, 68] : List UInt8)) a1_0 a1_1 a2_0 a2_1) else (pascalineref10_Two.j2 kj3 a0 a0 (a0.toList == ([79, 82] : List UInt8)) a1_0 a1_1 a2_0 a2_1)) = some (r1, r2, r3) := by rw [if_neg (show ¬ (false = true) by decide)] at H; exact H
        clear H
        have H := H1
        clear H1
        have HC41 := Aside0.mk H
        clear H
        go_upto_if 41 with (fail)
        go_cut [41] (fun v41 wc => ∃ (kq : Nat) (x41_40 : Bool), v41 = .bool x41_40 ∧ Aside0 (pascalineref10_Two.j2 kq a0 a0 x41_40 a1_0 a1_1 a2_0 a2_1 = some (r1, r2, r3)) ∧ Aside0 (kq ≤ kj3) ∧ Aside0 (wc.heap[gb209]? = some (.cells #[.int .i64 a1_0, .int .i32 a1_1] 28 (0, 0))) ∧ Aside0 (wc.heap[gb210]? = some (.cells #[.int .i64 a2_0, .int .i32 a2_1] 28 (0, 0))) ∧ Aside0 (wc.heap[gb211]? = some (.cells #[.int .i64 0, .int .i32 0] 28 (0, 0))) ∧ Aside0 (Below w.heap.size w wc))
        case first =>
          have H := HC41.out
          clear HC41
          by_cases c42 : a0.toList = ([65, 78, 68] : List UInt8)
          · rw [if_pos c42] at H
            have c42b0 : (a0.toList == ([65, 78, 68] : List UInt8)) = true := beq_iff_eq.mpr c42
            have c42b1 : (a0.toList != ([65, 78, 68] : List UInt8)) = false := bne_eq_false_iff_eq.mpr c42
            clear c42
            (first | rw [c42b0] | (simp only [i64_w, i32_w]; rw [c42b0]) | skip)
            have H' := Aside0.mk H
            clear H
            go_wp2
            go_meet
            case rel => exact ⟨_, ((a0.toList == ([65, 78, 68] : List UInt8))), (by first | rfl | (simp; done) | (simp [*]; done)), H', ⟨by have := HJ3.out; first | omega | exact Nat.le_refl _⟩, ⟨by (with_reducible repeat (first | refine blk_drewN ?_ _ | refine blk_drew ?_ | refine blk_alloc ?_ _)); exact BK209.out⟩, ⟨by (with_reducible repeat (first | refine blk_drewN ?_ _ | refine blk_drew ?_ | refine blk_alloc ?_ _)); exact BK210.out⟩, ⟨by (with_reducible repeat (first | refine blk_drewN ?_ _ | refine blk_drew ?_ | refine blk_alloc ?_ _)); exact BK211.out⟩, ⟨by repeat (first | (with_reducible first | exact HB.out | apply below_alloc | apply pw_below_drewN | apply below_drew1 | refine below_set ?_ GE209.out | refine below_set ?_ GE210.out | refine below_set ?_ GE211.out) | exact HB.out)⟩⟩
          · rw [if_neg c42] at H
            have c42b0 : (a0.toList == ([65, 78, 68] : List UInt8)) = false := beq_eq_false_iff_ne.mpr c42
            have c42b1 : (a0.toList != ([65, 78, 68] : List UInt8)) = true := bne_iff_ne.mpr c42
            (first | rw [c42b0] | (simp only [i64_w, i32_w]; rw [c42b0]) | skip)
            have H' := Aside0.mk H
            clear H
            go_wp2
            go_meet
            case rel => exact ⟨_, ((a0.toList == ([79, 82] : List UInt8))), (by first | rfl | (simp; done) | (simp [*]; done)), H', ⟨by have := HJ3.out; first | omega | exact Nat.le_refl _⟩, ⟨by (with_reducible repeat (first | refine blk_drewN ?_ _ | refine blk_drew ?_ | refine blk_alloc ?_ _)); exact BK209.out⟩, ⟨by (with_reducible repeat (first | refine blk_drewN ?_ _ | refine blk_drew ?_ | refine blk_alloc ?_ _)); exact BK210.out⟩, ⟨by (with_reducible repeat (first | refine blk_drewN ?_ _ | refine blk_drew ?_ | refine blk_alloc ?_ _)); exact BK211.out⟩, ⟨by repeat (first | (with_reducible first | exact HB.out | apply below_alloc | apply pw_below_drewN | apply below_drew1 | refine below_set ?_ GE209.out | refine below_set ?_ GE210.out | refine below_set ?_ GE211.out) | exact HB.out)⟩⟩
        case rest =>
          clear HC41
          try clear c1
          try clear c2
          try clear p2
          try clear c3
          try clear c4
          try clear c8
          try clear c8b0
          try clear c8b1
          try clear c9
          try clear c9b0
          try clear c9b1
          try clear c10
          try clear c10b0
          try clear c10b1
          try clear c11
          try clear c11b0
          try clear c11b1
          try clear c12
          try clear c14
          try clear c14b0
          try clear c14b1
          try clear c15
          try clear c16
          try clear c18
          try clear c20
          try clear c21
          try clear c23
          try clear c24
          try clear c25
          try clear c28
          try clear c29
          try clear c30
          try clear c32
          try clear c35
          try clear c36
          try clear c38
          try clear c42
          try clear c42b0
          try clear c42b1
          try clear hcz17_0
          try clear hcz17_1
          try clear hcz19_0
          try clear hcz19_1
          try clear hcz22_0
          try clear hcz22_1
          try clear hcz26_0
          try clear hcz26_1
          try clear hcz31_0
          try clear hcz31_1
          try clear hcz33_0
          try clear hcz33_1
          try clear hcz34_0
          try clear hcz34_1
          try clear hcz37_0
          try clear hcz37_1
          try clear hcz39_0
          try clear hcz39_1
          try clear hcz40_0
          try clear hcz40_1
          try clear hfz17_0
          try clear hfz17_1
          try clear hfz19_0
          try clear hfz19_1
          try clear hfz22_0
          try clear hfz22_1
          try clear hfz26_0
          try clear hfz26_1
          try clear hfz31_0
          try clear hfz31_1
          try clear hfz33_0
          try clear hfz33_1
          try clear hfz34_0
          try clear hfz34_1
          try clear hfz37_0
          try clear hfz37_1
          try clear hfz39_0
          try clear hfz39_1
          try clear hfz40_0
          try clear hfz40_1
          try clear p2
          obtain ⟨kq, x41_40, rfl, HA, HJ40, BK209, BK210, BK211, HB⟩ := hcut
          cases kq with
          | zero => exact absurd HA.out (by simp [pascalineref10_Two.j2])
          | succ kj40 =>
            have H := HA.out
            clear HA
            simp only [pascalineref10_Two.j2] at H
            by_cases c43 : x41_40 = true
            · subst c43
              have H1 : (if a1_0 = 2 then (pascalineref10_Two.j3 kj40 a0 (a2_0 != 2) a1_0 a1_1 a2_0 a2_1) else (pascalineref10_Two.j3 kj40 a0 true a1_0 a1_1 a2_0 a2_1)) = some (r1, r2, r3) := by rw [if_pos rfl] at H; exact H
              clear H
              have H := H1
              clear H1
              have HC44 := Aside0.mk H
              clear H
              go_upto_region 16 with (fail)
              go_cut [51] (fun v51 wc => ∃ (kq : Nat) (x51_43 : Bool), v51 = .bool x51_43 ∧ Aside0 (pascalineref10_Two.j3 kq a0 x51_43 a1_0 a1_1 a2_0 a2_1 = some (r1, r2, r3)) ∧ Aside0 (kq ≤ kj40) ∧ Aside0 (wc.heap[gb209]? = some (.cells #[.int .i64 a1_0, .int .i32 a1_1] 28 (0, 0))) ∧ Aside0 (wc.heap[gb210]? = some (.cells #[.int .i64 a2_0, .int .i32 a2_1] 28 (0, 0))) ∧ Aside0 (wc.heap[gb211]? = some (.cells #[.int .i64 0, .int .i32 0] 28 (0, 0))) ∧ Aside0 (Below w.heap.size w wc))
              case first =>
                have H := HC44.out
                clear HC44
                by_cases c45 : a1_0 = 2
                · rw [if_pos c45] at H
                  have c45b0 : (a1_0 == 2) = true := beq_iff_eq.mpr c45
                  have c45b1 : (a1_0 != 2) = false := bne_eq_false_iff_eq.mpr c45
                  clear c45
                  (first | rw [c45b0] | (simp only [i64_w, i32_w]; rw [c45b0]) | skip)
                  have H' := Aside0.mk H
                  clear H
                  have hnb46 := NB209_210.out
                  have hnc46 := NB210_209.out
                  have hnb47 := NB209_211.out
                  have hnc47 := NB211_209.out
                  have hcz48_0 : wc.cell? ⟨gb209, 0, none⟩ = some (.int .i64 a1_0) := (blk_cell BK209.out 0).trans rfl
                  have hcz48_1 : wc.cell? ⟨gb209, 1, none⟩ = some (.int .i32 a1_1) := (blk_cell BK209.out 1).trans rfl
                  have hfz48_0 := blk_frozen BK209.out 0
                  have hfz48_1 := blk_frozen BK209.out 1
                  have hnb49 := NB210_211.out
                  have hnc49 := NB211_210.out
                  have hcz50_0 : wc.cell? ⟨gb210, 0, none⟩ = some (.int .i64 a2_0) := (blk_cell BK210.out 0).trans rfl
                  have hcz50_1 : wc.cell? ⟨gb210, 1, none⟩ = some (.int .i32 a2_1) := (blk_cell BK210.out 1).trans rfl
                  have hfz50_0 := blk_frozen BK210.out 0
                  have hfz50_1 := blk_frozen BK210.out 1
                  go_wp2
                  go_meet
                  case rel => exact ⟨_, ((a2_0 != 2)), (by first | rfl | (simp; done) | (simp [*]; done)), H', ⟨by have := HJ3.out; have := HJ40.out; first | omega | exact Nat.le_refl _⟩, ⟨by (with_reducible repeat (first | refine blk_drewN ?_ _ | refine blk_drew ?_ | refine blk_alloc ?_ _)); exact BK209.out⟩, ⟨by (with_reducible repeat (first | refine blk_drewN ?_ _ | refine blk_drew ?_ | refine blk_alloc ?_ _)); exact BK210.out⟩, ⟨by (with_reducible repeat (first | refine blk_drewN ?_ _ | refine blk_drew ?_ | refine blk_alloc ?_ _)); exact BK211.out⟩, ⟨by repeat (first | (with_reducible first | exact HB.out | apply below_alloc | apply pw_below_drewN | apply below_drew1 | refine below_set ?_ GE209.out | refine below_set ?_ GE210.out | refine below_set ?_ GE211.out) | exact HB.out)⟩⟩
                · rw [if_neg c45] at H
                  have c45b0 : (a1_0 == 2) = false := beq_eq_false_iff_ne.mpr c45
                  have c45b1 : (a1_0 != 2) = true := bne_iff_ne.mpr c45
                  (first | rw [c45b0] | (simp only [i64_w, i32_w]; rw [c45b0]) | skip)
                  have H' := Aside0.mk H
                  clear H
                  have hnb51 := NB209_210.out
                  have hnc51 := NB210_209.out
                  have hnb52 := NB209_211.out
                  have hnc52 := NB211_209.out
                  have hcz53_0 : wc.cell? ⟨gb209, 0, none⟩ = some (.int .i64 a1_0) := (blk_cell BK209.out 0).trans rfl
                  have hcz53_1 : wc.cell? ⟨gb209, 1, none⟩ = some (.int .i32 a1_1) := (blk_cell BK209.out 1).trans rfl
                  have hfz53_0 := blk_frozen BK209.out 0
                  have hfz53_1 := blk_frozen BK209.out 1
                  go_wp2
                  go_meet
                  case rel => exact ⟨_, (true), (by first | rfl | (simp; done) | (simp [*]; done)), H', ⟨by have := HJ3.out; have := HJ40.out; first | omega | exact Nat.le_refl _⟩, ⟨by (with_reducible repeat (first | refine blk_drewN ?_ _ | refine blk_drew ?_ | refine blk_alloc ?_ _)); exact BK209.out⟩, ⟨by (with_reducible repeat (first | refine blk_drewN ?_ _ | refine blk_drew ?_ | refine blk_alloc ?_ _)); exact BK210.out⟩, ⟨by (with_reducible repeat (first | refine blk_drewN ?_ _ | refine blk_drew ?_ | refine blk_alloc ?_ _)); exact BK211.out⟩, ⟨by repeat (first | (with_reducible first | exact HB.out | apply below_alloc | apply pw_below_drewN | apply below_drew1 | refine below_set ?_ GE209.out | refine below_set ?_ GE210.out | refine below_set ?_ GE211.out) | exact HB.out)⟩⟩
              case rest =>
                clear HC44
                try clear c1
                try clear c2
                try clear p2
                try clear c3
                try clear c4
                try clear c5
                try clear c8
                try clear c8b0
                try clear c8b1
                try clear c9
                try clear c9b0
                try clear c9b1
                try clear c10
                try clear c10b0
                try clear c10b1
                try clear c11
                try clear c11b0
                try clear c11b1
                try clear c12
                try clear c14
                try clear c14b0
                try clear c14b1
                try clear c15
                try clear c16
                try clear c18
                try clear c20
                try clear c21
                try clear c23
                try clear c24
                try clear c25
                try clear c28
                try clear c29
                try clear c30
                try clear c32
                try clear c35
                try clear c36
                try clear c38
                try clear c42
                try clear c42b0
                try clear c42b1
                try clear c43
                try clear c45
                try clear c45b0
                try clear c45b1
                try clear c46
                try clear c47
                try clear c49
                try clear c51
                try clear c52
                try clear hcz17_0
                try clear hcz17_1
                try clear hcz19_0
                try clear hcz19_1
                try clear hcz22_0
                try clear hcz22_1
                try clear hcz26_0
                try clear hcz26_1
                try clear hcz31_0
                try clear hcz31_1
                try clear hcz33_0
                try clear hcz33_1
                try clear hcz34_0
                try clear hcz34_1
                try clear hcz37_0
                try clear hcz37_1
                try clear hcz39_0
                try clear hcz39_1
                try clear hcz40_0
                try clear hcz40_1
                try clear hcz48_0
                try clear hcz48_1
                try clear hcz50_0
                try clear hcz50_1
                try clear hcz53_0
                try clear hcz53_1
                try clear hfz17_0
                try clear hfz17_1
                try clear hfz19_0
                try clear hfz19_1
                try clear hfz22_0
                try clear hfz22_1
                try clear hfz26_0
                try clear hfz26_1
                try clear hfz31_0
                try clear hfz31_1
                try clear hfz33_0
                try clear hfz33_1
                try clear hfz34_0
                try clear hfz34_1
                try clear hfz37_0
                try clear hfz37_1
                try clear hfz39_0
                try clear hfz39_1
                try clear hfz40_0
                try clear hfz40_1
                try clear hfz48_0
                try clear hfz48_1
                try clear hfz50_0
                try clear hfz50_1
                try clear hfz53_0
                try clear hfz53_1
                try clear p2
                obtain ⟨kq, x51_43, rfl, HA, HJ43, BK209, BK210, BK211, HB⟩ := hcut
                cases kq with
                | zero => exact absurd HA.out (by simp [pascalineref10_Two.j3])
                | succ kj43 =>
                  have H := HA.out
                  clear HA
                  simp only [pascalineref10_Two.j3] at H
                  by_cases c54 : x51_43 = true
                  · subst c54
                    have H1 : (some (0, 0, 91)) = some (r1, r2, r3) := by rw [if_pos rfl] at H; exact H
                    clear H
                    have H := H1
                    clear H1
                    simp only [Option.some.injEq, Prod.mk.injEq] at H
                    obtain ⟨rfl, rfl, rfl⟩ := H
                    have hnb55 := NB211_209.out
                    have hnc55 := NB209_211.out
                    have hnb56 := NB211_210.out
                    have hnc56 := NB210_211.out
                    have hcz57_0 : wc.cell? ⟨gb211, 0, none⟩ = some (.int .i64 0) := (blk_cell BK211.out 0).trans rfl
                    have hcz57_1 : wc.cell? ⟨gb211, 1, none⟩ = some (.int .i32 0) := (blk_cell BK211.out 1).trans rfl
                    have hfz57_0 := blk_frozen BK211.out 0
                    have hfz57_1 := blk_frozen BK211.out 1
                    go_wp2
                    refine bodyPost_ret (results_ct rfl _ _ gb211 28 #[.int .i64 0, .int .i32 0] (0, 0) _ rfl (by (with_reducible repeat (first | refine blk_drewN ?_ _ | refine blk_drew ?_ | refine blk_alloc ?_ _)); refine blk_put (cs := #[.int .i64 0, .int .i32 0]) ?_ 1 _ rfl; (with_reducible repeat (first | refine blk_drewN ?_ _ | refine blk_drew ?_ | refine blk_alloc ?_ _)); refine blk_put (cs := #[.int .i64 0, .int .i32 0]) ?_ 0 _ rfl; (with_reducible repeat (first | refine blk_drewN ?_ _ | refine blk_drew ?_ | refine blk_alloc ?_ _)); exact BK211.out) Try.underlying28 rfl (by kernel_rfl)) rfl ?_
                    exact ⟨by first | rfl | (simp [errW_none, errW_some] <;> rfl) | (simp [*, errW_none, errW_some] <;> rfl), by repeat (first | (with_reducible first | exact HB.out | apply below_alloc | apply pw_below_drewN | apply below_drew1 | refine below_set ?_ GE209.out | refine below_set ?_ GE210.out | refine below_set ?_ GE211.out) | exact HB.out)⟩
                  · replace c54 := Bool.eq_false_iff.mpr c54
                    subst c54
                    have H1 : (if a0.toList = ([65, 78, 68] : List UInt8) then (if a1_1 = 0 then ((pascalineref10_Truth.f false).bind fun bt214 => (some (bt214.1, bt214.2, 0))) else ((pascalineref10_Truth.f (a2_1 != 0)).bind fun bt216 => (some (bt216.1, bt216.2, 0)))) else (if a1_1 = 0 then ((pascalineref10_Truth.f (a2_1 != 0)).bind fun bt218 => (some (bt218.1, bt218.2, 0))) else ((pascalineref10_Truth.f true).bind fun bt220 => (some (bt220.1, bt220.2, 0))))) = some (r1, r2, r3) := by rw [if_neg (show ¬ (false = true) by decide)] at H; exact H
                    clear H
                    have H := H1
                    clear H1
                    by_cases c58 : a0.toList = ([65, 78, 68] : List UInt8)
                    · rw [if_pos c58] at H
                      have c58b0 : (a0.toList == ([65, 78, 68] : List UInt8)) = true := beq_iff_eq.mpr c58
                      have c58b1 : (a0.toList != ([65, 78, 68] : List UInt8)) = false := bne_eq_false_iff_eq.mpr c58
                      clear c58
                      by_cases c59 : a1_1 = 0
                      · rw [if_pos c59] at H
                        have c59b0 : (a1_1 == 0) = true := beq_iff_eq.mpr c59
                        have c59b1 : (a1_1 != 0) = false := bne_eq_false_iff_eq.mpr c59
                        clear c59
                        replace H := Option.bind_eq_some_iff.mp H
                        obtain ⟨⟨t214, t215⟩, A600, H⟩ := H
                        replace H : (some (t214, t215, 0)) = some (r1, r2, r3) := H
                        have A60 := Aside0.mk A600
                        clear A600
                        simp only [Option.some.injEq, Prod.mk.injEq] at H
                        obtain ⟨rfl, rfl, rfl⟩ := H
                        have hnb61 := NB209_210.out
                        have hnc61 := NB210_209.out
                        have hnb62 := NB209_211.out
                        have hnc62 := NB211_209.out
                        have hcz63_0 : wc.cell? ⟨gb209, 0, none⟩ = some (.int .i64 a1_0) := (blk_cell BK209.out 0).trans rfl
                        have hcz63_1 : wc.cell? ⟨gb209, 1, none⟩ = some (.int .i32 a1_1) := (blk_cell BK209.out 1).trans rfl
                        have hfz63_0 := blk_frozen BK209.out 0
                        have hfz63_1 := blk_frozen BK209.out 1
                        go_wp2_with (first | ((with_reducible refine gate_callee (f := 22) rfl ?_); refine goesL_ (some 63) rfl rfl Try.func22 (by kernel_rfl) rfl #[.bool false] rfl (by (try simp only [List.map_toArray, List.map_cons, List.map_nil]); first | done | rfl | (simp only [List.length_drop, List.length_take]; rfl)) ?_; (with_reducible refine (pascalineref10_Truth.calls false t214 t215 _ A60.out).mono ?_); rintro e w64 ⟨rfl, hb⟩; refine ⟨_, rfl, ?_⟩; have n0_ := Aside0.mk (blk_below (g := gb209) (o := .cells #[.int .i64 a1_0, .int .i32 a1_1] 28 (0, 0)) (by (with_reducible repeat (first | refine blk_drewN ?_ _ | refine blk_drew ?_ | refine blk_alloc ?_ _)); exact BK209.out) hb); have n1_ := Aside0.mk (blk_below (g := gb210) (o := .cells #[.int .i64 a2_0, .int .i32 a2_1] 28 (0, 0)) (by (with_reducible repeat (first | refine blk_drewN ?_ _ | refine blk_drew ?_ | refine blk_alloc ?_ _)); exact BK210.out) hb); have n2_ := Aside0.mk (blk_below (g := gb211) (o := .cells #[.int .i64 0, .int .i32 0] 28 (0, 0)) (by (with_reducible repeat (first | refine blk_drewN ?_ _ | refine blk_drew ?_ | refine blk_alloc ?_ _)); exact BK211.out) hb); have n3_ := Aside0.mk (below_step (by repeat (first | (with_reducible first | exact HB.out | apply below_alloc | apply pw_below_drewN | apply below_drew1 | refine below_set ?_ GE209.out | refine below_set ?_ GE210.out | refine below_set ?_ GE211.out) | exact HB.out)) hb); clear BK209; clear BK210; clear BK211; clear HB; have BK209 := n0_; have BK210 := n1_; have BK211 := n2_; have HB := n3_; clear n0_ n1_ n2_ n3_; (try clear hb); (try clear hb2); (try clear hk); (try clear hi); have hnb65 := NB211_210.out; have hnc65 := NB210_211.out; have hcz66_0 : w64.cell? ⟨gb211, 0, none⟩ = some (.int .i64 0) := (blk_cell BK211.out 0).trans rfl; have hcz66_1 : w64.cell? ⟨gb211, 1, none⟩ = some (.int .i32 0) := (blk_cell BK211.out 1).trans rfl; have hfz66_0 := blk_frozen BK211.out 0; have hfz66_1 := blk_frozen BK211.out 1))
                        refine bodyPost_ret (results_ct rfl _ _ gb211 28 #[.int .i64 t214, .int .i32 t215] (0, 0) _ rfl (by (with_reducible repeat (first | refine blk_drewN ?_ _ | refine blk_drew ?_ | refine blk_alloc ?_ _)); refine blk_put (cs := #[.int .i64 t214, .int .i32 0]) ?_ 1 _ rfl; (with_reducible repeat (first | refine blk_drewN ?_ _ | refine blk_drew ?_ | refine blk_alloc ?_ _)); refine blk_put (cs := #[.int .i64 0, .int .i32 0]) ?_ 0 _ rfl; (with_reducible repeat (first | refine blk_drewN ?_ _ | refine blk_drew ?_ | refine blk_alloc ?_ _)); exact BK211.out) Try.underlying28 rfl (by kernel_rfl)) rfl ?_
                        exact ⟨by first | rfl | (simp [errW_none, errW_some] <;> rfl) | (simp [*, errW_none, errW_some] <;> rfl), by repeat (first | (with_reducible first | exact HB.out | apply below_alloc | apply pw_below_drewN | apply below_drew1 | refine below_set ?_ GE209.out | refine below_set ?_ GE210.out | refine below_set ?_ GE211.out) | exact HB.out)⟩
                      · rw [if_neg c59] at H
                        have c59b0 : (a1_1 == 0) = false := beq_eq_false_iff_ne.mpr c59
                        have c59b1 : (a1_1 != 0) = true := bne_iff_ne.mpr c59
                        replace H := Option.bind_eq_some_iff.mp H
                        obtain ⟨⟨t216, t217⟩, A670, H⟩ := H
                        replace H : (some (t216, t217, 0)) = some (r1, r2, r3) := H
                        have A67 := Aside0.mk A670
                        clear A670
                        simp only [Option.some.injEq, Prod.mk.injEq] at H
                        obtain ⟨rfl, rfl, rfl⟩ := H
                        have hnb68 := NB209_210.out
                        have hnc68 := NB210_209.out
                        have hnb69 := NB209_211.out
                        have hnc69 := NB211_209.out
                        have hcz70_0 : wc.cell? ⟨gb209, 0, none⟩ = some (.int .i64 a1_0) := (blk_cell BK209.out 0).trans rfl
                        have hcz70_1 : wc.cell? ⟨gb209, 1, none⟩ = some (.int .i32 a1_1) := (blk_cell BK209.out 1).trans rfl
                        have hfz70_0 := blk_frozen BK209.out 0
                        have hfz70_1 := blk_frozen BK209.out 1
                        have hnb71 := NB210_211.out
                        have hnc71 := NB211_210.out
                        have hcz72_0 : wc.cell? ⟨gb210, 0, none⟩ = some (.int .i64 a2_0) := (blk_cell BK210.out 0).trans rfl
                        have hcz72_1 : wc.cell? ⟨gb210, 1, none⟩ = some (.int .i32 a2_1) := (blk_cell BK210.out 1).trans rfl
                        have hfz72_0 := blk_frozen BK210.out 0
                        have hfz72_1 := blk_frozen BK210.out 1
                        go_wp2_with (first | ((with_reducible refine gate_callee (f := 22) rfl ?_); refine goesL_ (some 63) rfl rfl Try.func22 (by kernel_rfl) rfl #[.bool (a2_1 != 0)] rfl (by (try simp only [List.map_toArray, List.map_cons, List.map_nil]); first | done | rfl | (simp only [List.length_drop, List.length_take]; rfl)) ?_; (with_reducible refine (pascalineref10_Truth.calls (a2_1 != 0) t216 t217 _ A67.out).mono ?_); rintro e w73 ⟨rfl, hb⟩; refine ⟨_, rfl, ?_⟩; have n0_ := Aside0.mk (blk_below (g := gb209) (o := .cells #[.int .i64 a1_0, .int .i32 a1_1] 28 (0, 0)) (by (with_reducible repeat (first | refine blk_drewN ?_ _ | refine blk_drew ?_ | refine blk_alloc ?_ _)); exact BK209.out) hb); have n1_ := Aside0.mk (blk_below (g := gb210) (o := .cells #[.int .i64 a2_0, .int .i32 a2_1] 28 (0, 0)) (by (with_reducible repeat (first | refine blk_drewN ?_ _ | refine blk_drew ?_ | refine blk_alloc ?_ _)); exact BK210.out) hb); have n2_ := Aside0.mk (blk_below (g := gb211) (o := .cells #[.int .i64 0, .int .i32 0] 28 (0, 0)) (by (with_reducible repeat (first | refine blk_drewN ?_ _ | refine blk_drew ?_ | refine blk_alloc ?_ _)); exact BK211.out) hb); have n3_ := Aside0.mk (below_step (by repeat (first | (with_reducible first | exact HB.out | apply below_alloc | apply pw_below_drewN | apply below_drew1 | refine below_set ?_ GE209.out | refine below_set ?_ GE210.out | refine below_set ?_ GE211.out) | exact HB.out)) hb); clear BK209; clear BK210; clear BK211; clear HB; have BK209 := n0_; have BK210 := n1_; have BK211 := n2_; have HB := n3_; clear n0_ n1_ n2_ n3_; (try clear hb); (try clear hb2); (try clear hk); (try clear hi); have hcz74_0 : w73.cell? ⟨gb211, 0, none⟩ = some (.int .i64 0) := (blk_cell BK211.out 0).trans rfl; have hcz74_1 : w73.cell? ⟨gb211, 1, none⟩ = some (.int .i32 0) := (blk_cell BK211.out 1).trans rfl; have hfz74_0 := blk_frozen BK211.out 0; have hfz74_1 := blk_frozen BK211.out 1))
                        refine bodyPost_ret (results_ct rfl _ _ gb211 28 #[.int .i64 t216, .int .i32 t217] (0, 0) _ rfl (by (with_reducible repeat (first | refine blk_drewN ?_ _ | refine blk_drew ?_ | refine blk_alloc ?_ _)); refine blk_put (cs := #[.int .i64 t216, .int .i32 0]) ?_ 1 _ rfl; (with_reducible repeat (first | refine blk_drewN ?_ _ | refine blk_drew ?_ | refine blk_alloc ?_ _)); refine blk_put (cs := #[.int .i64 0, .int .i32 0]) ?_ 0 _ rfl; (with_reducible repeat (first | refine blk_drewN ?_ _ | refine blk_drew ?_ | refine blk_alloc ?_ _)); exact BK211.out) Try.underlying28 rfl (by kernel_rfl)) rfl ?_
                        exact ⟨by first | rfl | (simp [errW_none, errW_some] <;> rfl) | (simp [*, errW_none, errW_some] <;> rfl), by repeat (first | (with_reducible first | exact HB.out | apply below_alloc | apply pw_below_drewN | apply below_drew1 | refine below_set ?_ GE209.out | refine below_set ?_ GE210.out | refine below_set ?_ GE211.out) | exact HB.out)⟩
                    · rw [if_neg c58] at H
                      have c58b0 : (a0.toList == ([65, 78, 68] : List UInt8)) = false := beq_eq_false_iff_ne.mpr c58
                      have c58b1 : (a0.toList != ([65, 78, 68] : List UInt8)) = true := bne_iff_ne.mpr c58
                      by_cases c75 : a1_1 = 0
                      · rw [if_pos c75] at H
                        have c75b0 : (a1_1 == 0) = true := beq_iff_eq.mpr c75
                        have c75b1 : (a1_1 != 0) = false := bne_eq_false_iff_eq.mpr c75
                        clear c75
                        replace H := Option.bind_eq_some_iff.mp H
                        obtain ⟨⟨t218, t219⟩, A760, H⟩ := H
                        replace H : (some (t218, t219, 0)) = some (r1, r2, r3) := H
                        have A76 := Aside0.mk A760
                        clear A760
                        simp only [Option.some.injEq, Prod.mk.injEq] at H
                        obtain ⟨rfl, rfl, rfl⟩ := H
                        have hnb77 := NB209_210.out
                        have hnc77 := NB210_209.out
                        have hnb78 := NB209_211.out
                        have hnc78 := NB211_209.out
                        have hcz79_0 : wc.cell? ⟨gb209, 0, none⟩ = some (.int .i64 a1_0) := (blk_cell BK209.out 0).trans rfl
                        have hcz79_1 : wc.cell? ⟨gb209, 1, none⟩ = some (.int .i32 a1_1) := (blk_cell BK209.out 1).trans rfl
                        have hfz79_0 := blk_frozen BK209.out 0
                        have hfz79_1 := blk_frozen BK209.out 1
                        have hnb80 := NB210_211.out
                        have hnc80 := NB211_210.out
                        have hcz81_0 : wc.cell? ⟨gb210, 0, none⟩ = some (.int .i64 a2_0) := (blk_cell BK210.out 0).trans rfl
                        have hcz81_1 : wc.cell? ⟨gb210, 1, none⟩ = some (.int .i32 a2_1) := (blk_cell BK210.out 1).trans rfl
                        have hfz81_0 := blk_frozen BK210.out 0
                        have hfz81_1 := blk_frozen BK210.out 1
                        go_wp2_with (first | ((with_reducible refine gate_callee (f := 22) rfl ?_); refine goesL_ (some 72) rfl rfl Try.func22 (by kernel_rfl) rfl #[.bool (a2_1 != 0)] rfl (by (try simp only [List.map_toArray, List.map_cons, List.map_nil]); first | done | rfl | (simp only [List.length_drop, List.length_take]; rfl)) ?_; (with_reducible refine (pascalineref10_Truth.calls (a2_1 != 0) t218 t219 _ A76.out).mono ?_); rintro e w82 ⟨rfl, hb⟩; refine ⟨_, rfl, ?_⟩; have n0_ := Aside0.mk (blk_below (g := gb209) (o := .cells #[.int .i64 a1_0, .int .i32 a1_1] 28 (0, 0)) (by (with_reducible repeat (first | refine blk_drewN ?_ _ | refine blk_drew ?_ | refine blk_alloc ?_ _)); exact BK209.out) hb); have n1_ := Aside0.mk (blk_below (g := gb210) (o := .cells #[.int .i64 a2_0, .int .i32 a2_1] 28 (0, 0)) (by (with_reducible repeat (first | refine blk_drewN ?_ _ | refine blk_drew ?_ | refine blk_alloc ?_ _)); exact BK210.out) hb); have n2_ := Aside0.mk (blk_below (g := gb211) (o := .cells #[.int .i64 0, .int .i32 0] 28 (0, 0)) (by (with_reducible repeat (first | refine blk_drewN ?_ _ | refine blk_drew ?_ | refine blk_alloc ?_ _)); exact BK211.out) hb); have n3_ := Aside0.mk (below_step (by repeat (first | (with_reducible first | exact HB.out | apply below_alloc | apply pw_below_drewN | apply below_drew1 | refine below_set ?_ GE209.out | refine below_set ?_ GE210.out | refine below_set ?_ GE211.out) | exact HB.out)) hb); clear BK209; clear BK210; clear BK211; clear HB; have BK209 := n0_; have BK210 := n1_; have BK211 := n2_; have HB := n3_; clear n0_ n1_ n2_ n3_; (try clear hb); (try clear hb2); (try clear hk); (try clear hi); have hcz83_0 : w82.cell? ⟨gb211, 0, none⟩ = some (.int .i64 0) := (blk_cell BK211.out 0).trans rfl; have hcz83_1 : w82.cell? ⟨gb211, 1, none⟩ = some (.int .i32 0) := (blk_cell BK211.out 1).trans rfl; have hfz83_0 := blk_frozen BK211.out 0; have hfz83_1 := blk_frozen BK211.out 1))
                        refine bodyPost_ret (results_ct rfl _ _ gb211 28 #[.int .i64 t218, .int .i32 t219] (0, 0) _ rfl (by (with_reducible repeat (first | refine blk_drewN ?_ _ | refine blk_drew ?_ | refine blk_alloc ?_ _)); refine blk_put (cs := #[.int .i64 t218, .int .i32 0]) ?_ 1 _ rfl; (with_reducible repeat (first | refine blk_drewN ?_ _ | refine blk_drew ?_ | refine blk_alloc ?_ _)); refine blk_put (cs := #[.int .i64 0, .int .i32 0]) ?_ 0 _ rfl; (with_reducible repeat (first | refine blk_drewN ?_ _ | refine blk_drew ?_ | refine blk_alloc ?_ _)); exact BK211.out) Try.underlying28 rfl (by kernel_rfl)) rfl ?_
                        exact ⟨by first | rfl | (simp [errW_none, errW_some] <;> rfl) | (simp [*, errW_none, errW_some] <;> rfl), by repeat (first | (with_reducible first | exact HB.out | apply below_alloc | apply pw_below_drewN | apply below_drew1 | refine below_set ?_ GE209.out | refine below_set ?_ GE210.out | refine below_set ?_ GE211.out) | exact HB.out)⟩
                      · rw [if_neg c75] at H
                        have c75b0 : (a1_1 == 0) = false := beq_eq_false_iff_ne.mpr c75
                        have c75b1 : (a1_1 != 0) = true := bne_iff_ne.mpr c75
                        replace H := Option.bind_eq_some_iff.mp H
                        obtain ⟨⟨t220, t221⟩, A840, H⟩ := H
                        replace H : (some (t220, t221, 0)) = some (r1, r2, r3) := H
                        have A84 := Aside0.mk A840
                        clear A840
                        simp only [Option.some.injEq, Prod.mk.injEq] at H
                        obtain ⟨rfl, rfl, rfl⟩ := H
                        have hnb85 := NB209_210.out
                        have hnc85 := NB210_209.out
                        have hnb86 := NB209_211.out
                        have hnc86 := NB211_209.out
                        have hcz87_0 : wc.cell? ⟨gb209, 0, none⟩ = some (.int .i64 a1_0) := (blk_cell BK209.out 0).trans rfl
                        have hcz87_1 : wc.cell? ⟨gb209, 1, none⟩ = some (.int .i32 a1_1) := (blk_cell BK209.out 1).trans rfl
                        have hfz87_0 := blk_frozen BK209.out 0
                        have hfz87_1 := blk_frozen BK209.out 1
                        go_wp2_with (first | ((with_reducible refine gate_callee (f := 22) rfl ?_); refine goesL_ (some 72) rfl rfl Try.func22 (by kernel_rfl) rfl #[.bool true] rfl (by (try simp only [List.map_toArray, List.map_cons, List.map_nil]); first | done | rfl | (simp only [List.length_drop, List.length_take]; rfl)) ?_; (with_reducible refine (pascalineref10_Truth.calls true t220 t221 _ A84.out).mono ?_); rintro e w88 ⟨rfl, hb⟩; refine ⟨_, rfl, ?_⟩; have n0_ := Aside0.mk (blk_below (g := gb209) (o := .cells #[.int .i64 a1_0, .int .i32 a1_1] 28 (0, 0)) (by (with_reducible repeat (first | refine blk_drewN ?_ _ | refine blk_drew ?_ | refine blk_alloc ?_ _)); exact BK209.out) hb); have n1_ := Aside0.mk (blk_below (g := gb210) (o := .cells #[.int .i64 a2_0, .int .i32 a2_1] 28 (0, 0)) (by (with_reducible repeat (first | refine blk_drewN ?_ _ | refine blk_drew ?_ | refine blk_alloc ?_ _)); exact BK210.out) hb); have n2_ := Aside0.mk (blk_below (g := gb211) (o := .cells #[.int .i64 0, .int .i32 0] 28 (0, 0)) (by (with_reducible repeat (first | refine blk_drewN ?_ _ | refine blk_drew ?_ | refine blk_alloc ?_ _)); exact BK211.out) hb); have n3_ := Aside0.mk (below_step (by repeat (first | (with_reducible first | exact HB.out | apply below_alloc | apply pw_below_drewN | apply below_drew1 | refine below_set ?_ GE209.out | refine below_set ?_ GE210.out | refine below_set ?_ GE211.out) | exact HB.out)) hb); clear BK209; clear BK210; clear BK211; clear HB; have BK209 := n0_; have BK210 := n1_; have BK211 := n2_; have HB := n3_; clear n0_ n1_ n2_ n3_; (try clear hb); (try clear hb2); (try clear hk); (try clear hi); have hnb89 := NB211_210.out; have hnc89 := NB210_211.out; have hcz90_0 : w88.cell? ⟨gb211, 0, none⟩ = some (.int .i64 0) := (blk_cell BK211.out 0).trans rfl; have hcz90_1 : w88.cell? ⟨gb211, 1, none⟩ = some (.int .i32 0) := (blk_cell BK211.out 1).trans rfl; have hfz90_0 := blk_frozen BK211.out 0; have hfz90_1 := blk_frozen BK211.out 1))
                        refine bodyPost_ret (results_ct rfl _ _ gb211 28 #[.int .i64 t220, .int .i32 t221] (0, 0) _ rfl (by (with_reducible repeat (first | refine blk_drewN ?_ _ | refine blk_drew ?_ | refine blk_alloc ?_ _)); refine blk_put (cs := #[.int .i64 t220, .int .i32 0]) ?_ 1 _ rfl; (with_reducible repeat (first | refine blk_drewN ?_ _ | refine blk_drew ?_ | refine blk_alloc ?_ _)); refine blk_put (cs := #[.int .i64 0, .int .i32 0]) ?_ 0 _ rfl; (with_reducible repeat (first | refine blk_drewN ?_ _ | refine blk_drew ?_ | refine blk_alloc ?_ _)); exact BK211.out) Try.underlying28 rfl (by kernel_rfl)) rfl ?_
                        exact ⟨by first | rfl | (simp [errW_none, errW_some] <;> rfl) | (simp [*, errW_none, errW_some] <;> rfl), by repeat (first | (with_reducible first | exact HB.out | apply below_alloc | apply pw_below_drewN | apply below_drew1 | refine below_set ?_ GE209.out | refine below_set ?_ GE210.out | refine below_set ?_ GE211.out) | exact HB.out)⟩
            · replace c43 := Bool.eq_false_iff.mpr c43
              subst c43
              have H1 : (if a0.toList = ([61] : List UInt8) then (pascalineref10_Two.j4 kj40 a0 (a0.toList == ([61] : List UInt8)) a1_0 a1_1 a2_0 a2_1) else (if a0.toList = ([35] : List UInt8) then (pascalineref10_Two.j4 kj40 a0 (a0.toList == ([35] : List UInt8)) a1_0 a1_1 a2_0 a2_1) else (if a0.toList = ([60] : List UInt8) then (pascalineref10_Two.j4 kj40 a0 (a0.toList == ([60] : List UInt8)) a1_0 a1_1 a2_0 a2_1) else (if a0.toList = ([60, 61] : List UInt8) then (pascalineref10_Two.j4 kj40 a0 (a0.toList == ([60, 61] : List UInt8)) a1_0 a1_1 a2_0 a2_1) else (if a0.toList = ([62] : List UInt8) then (pascalineref10_Two.j4 kj40 a0 (a0.toList == ([62] : List UInt8)) a1_0 a1_1 a2_0 a2_1) else (pascalineref10_Two.j4 kj40 a0 (a0.toList == ([62, 61] : List UInt8)) a1_0 a1_1 a2_0 a2_1)))))) = some (r1, r2, r3) := by rw [if_neg (show ¬ (false = true) by decide)] at H; exact H
              clear H
              have H := H1
              clear H1
              have HC91 := Aside0.mk H
              clear H
              go_upto_if 73 with (fail)
              go_cut [73] (fun v73 wc => ∃ (kq : Nat) (x73_90 : Bool), v73 = .bool x73_90 ∧ Aside0 (pascalineref10_Two.j4 kq a0 x73_90 a1_0 a1_1 a2_0 a2_1 = some (r1, r2, r3)) ∧ Aside0 (kq ≤ kj40) ∧ Aside0 (wc.heap[gb209]? = some (.cells #[.int .i64 a1_0, .int .i32 a1_1] 28 (0, 0))) ∧ Aside0 (wc.heap[gb210]? = some (.cells #[.int .i64 a2_0, .int .i32 a2_1] 28 (0, 0))) ∧ Aside0 (wc.heap[gb211]? = some (.cells #[.int .i64 0, .int .i32 0] 28 (0, 0))) ∧ Aside0 (Below w.heap.size w wc))
              case first =>
                have H := HC91.out
                clear HC91
                by_cases c92 : a0.toList = ([61] : List UInt8)
                · rw [if_pos c92] at H
                  have c92b0 : (a0.toList == ([61] : List UInt8)) = true := beq_iff_eq.mpr c92
                  have c92b1 : (a0.toList != ([61] : List UInt8)) = false := bne_eq_false_iff_eq.mpr c92
                  clear c92
                  (first | rw [c92b0] | (simp only [i64_w, i32_w]; rw [c92b0]) | skip)
                  have H' := Aside0.mk H
                  clear H
                  go_wp2
                  go_meet
                  case rel => exact ⟨_, ((a0.toList == ([61] : List UInt8))), (by first | rfl | (simp; done) | (simp [*]; done)), H', ⟨by have := HJ3.out; have := HJ40.out; first | omega | exact Nat.le_refl _⟩, ⟨by (with_reducible repeat (first | refine blk_drewN ?_ _ | refine blk_drew ?_ | refine blk_alloc ?_ _)); exact BK209.out⟩, ⟨by (with_reducible repeat (first | refine blk_drewN ?_ _ | refine blk_drew ?_ | refine blk_alloc ?_ _)); exact BK210.out⟩, ⟨by (with_reducible repeat (first | refine blk_drewN ?_ _ | refine blk_drew ?_ | refine blk_alloc ?_ _)); exact BK211.out⟩, ⟨by repeat (first | (with_reducible first | exact HB.out | apply below_alloc | apply pw_below_drewN | apply below_drew1 | refine below_set ?_ GE209.out | refine below_set ?_ GE210.out | refine below_set ?_ GE211.out) | exact HB.out)⟩⟩
                · rw [if_neg c92] at H
                  have c92b0 : (a0.toList == ([61] : List UInt8)) = false := beq_eq_false_iff_ne.mpr c92
                  have c92b1 : (a0.toList != ([61] : List UInt8)) = true := bne_iff_ne.mpr c92
                  (first | rw [c92b0] | (simp only [i64_w, i32_w]; rw [c92b0]) | skip)
                  by_cases c93 : a0.toList = ([35] : List UInt8)
                  · rw [if_pos c93] at H
                    have c93b0 : (a0.toList == ([35] : List UInt8)) = true := beq_iff_eq.mpr c93
                    have c93b1 : (a0.toList != ([35] : List UInt8)) = false := bne_eq_false_iff_eq.mpr c93
                    clear c93
                    have H' := Aside0.mk H
                    clear H
                    go_wp2
                    go_meet
                    case rel => exact ⟨_, ((a0.toList == ([35] : List UInt8))), (by first | rfl | (simp; done) | (simp [*]; done)), H', ⟨by have := HJ3.out; have := HJ40.out; first | omega | exact Nat.le_refl _⟩, ⟨by (with_reducible repeat (first | refine blk_drewN ?_ _ | refine blk_drew ?_ | refine blk_alloc ?_ _)); exact BK209.out⟩, ⟨by (with_reducible repeat (first | refine blk_drewN ?_ _ | refine blk_drew ?_ | refine blk_alloc ?_ _)); exact BK210.out⟩, ⟨by (with_reducible repeat (first | refine blk_drewN ?_ _ | refine blk_drew ?_ | refine blk_alloc ?_ _)); exact BK211.out⟩, ⟨by repeat (first | (with_reducible first | exact HB.out | apply below_alloc | apply pw_below_drewN | apply below_drew1 | refine below_set ?_ GE209.out | refine below_set ?_ GE210.out | refine below_set ?_ GE211.out) | exact HB.out)⟩⟩
                  · rw [if_neg c93] at H
                    have c93b0 : (a0.toList == ([35] : List UInt8)) = false := beq_eq_false_iff_ne.mpr c93
                    have c93b1 : (a0.toList != ([35] : List UInt8)) = true := bne_iff_ne.mpr c93
                    by_cases c94 : a0.toList = ([60] : List UInt8)
                    · rw [if_pos c94] at H
                      have c94b0 : (a0.toList == ([60] : List UInt8)) = true := beq_iff_eq.mpr c94
                      have c94b1 : (a0.toList != ([60] : List UInt8)) = false := bne_eq_false_iff_eq.mpr c94
                      clear c94
                      have H' := Aside0.mk H
                      clear H
                      go_wp2
                      go_meet
                      case rel => exact ⟨_, ((a0.toList == ([60] : List UInt8))), (by first | rfl | (simp; done) | (simp [*]; done)), H', ⟨by have := HJ3.out; have := HJ40.out; first | omega | exact Nat.le_refl _⟩, ⟨by (with_reducible repeat (first | refine blk_drewN ?_ _ | refine blk_drew ?_ | refine blk_alloc ?_ _)); exact BK209.out⟩, ⟨by (with_reducible repeat (first | refine blk_drewN ?_ _ | refine blk_drew ?_ | refine blk_alloc ?_ _)); exact BK210.out⟩, ⟨by (with_reducible repeat (first | refine blk_drewN ?_ _ | refine blk_drew ?_ | refine blk_alloc ?_ _)); exact BK211.out⟩, ⟨by repeat (first | (with_reducible first | exact HB.out | apply below_alloc | apply pw_below_drewN | apply below_drew1 | refine below_set ?_ GE209.out | refine below_set ?_ GE210.out | refine below_set ?_ GE211.out) | exact HB.out)⟩⟩
                    · rw [if_neg c94] at H
                      have c94b0 : (a0.toList == ([60] : List UInt8)) = false := beq_eq_false_iff_ne.mpr c94
                      have c94b1 : (a0.toList != ([60] : List UInt8)) = true := bne_iff_ne.mpr c94
                      by_cases c95 : a0.toList = ([60, 61] : List UInt8)
                      · rw [if_pos c95] at H
                        have c95b0 : (a0.toList == ([60, 61] : List UInt8)) = true := beq_iff_eq.mpr c95
                        have c95b1 : (a0.toList != ([60, 61] : List UInt8)) = false := bne_eq_false_iff_eq.mpr c95
                        clear c95
                        have H' := Aside0.mk H
                        clear H
                        go_wp2
                        go_meet
                        case rel => exact ⟨_, ((a0.toList == ([60, 61] : List UInt8))), (by first | rfl | (simp; done) | (simp [*]; done)), H', ⟨by have := HJ3.out; have := HJ40.out; first | omega | exact Nat.le_refl _⟩, ⟨by (with_reducible repeat (first | refine blk_drewN ?_ _ | refine blk_drew ?_ | refine blk_alloc ?_ _)); exact BK209.out⟩, ⟨by (with_reducible repeat (first | refine blk_drewN ?_ _ | refine blk_drew ?_ | refine blk_alloc ?_ _)); exact BK210.out⟩, ⟨by (with_reducible repeat (first | refine blk_drewN ?_ _ | refine blk_drew ?_ | refine blk_alloc ?_ _)); exact BK211.out⟩, ⟨by repeat (first | (with_reducible first | exact HB.out | apply below_alloc | apply pw_below_drewN | apply below_drew1 | refine below_set ?_ GE209.out | refine below_set ?_ GE210.out | refine below_set ?_ GE211.out) | exact HB.out)⟩⟩
                      · rw [if_neg c95] at H
                        have c95b0 : (a0.toList == ([60, 61] : List UInt8)) = false := beq_eq_false_iff_ne.mpr c95
                        have c95b1 : (a0.toList != ([60, 61] : List UInt8)) = true := bne_iff_ne.mpr c95
                        by_cases c96 : a0.toList = ([62] : List UInt8)
                        · rw [if_pos c96] at H
                          have c96b0 : (a0.toList == ([62] : List UInt8)) = true := beq_iff_eq.mpr c96
                          have c96b1 : (a0.toList != ([62] : List UInt8)) = false := bne_eq_false_iff_eq.mpr c96
                          clear c96
                          have H' := Aside0.mk H
                          clear H
                          go_wp2
                          go_meet
                          case rel => exact ⟨_, ((a0.toList == ([62] : List UInt8))), (by first | rfl | (simp; done) | (simp [*]; done)), H', ⟨by have := HJ3.out; have := HJ40.out; first | omega | exact Nat.le_refl _⟩, ⟨by (with_reducible repeat (first | refine blk_drewN ?_ _ | refine blk_drew ?_ | refine blk_alloc ?_ _)); exact BK209.out⟩, ⟨by (with_reducible repeat (first | refine blk_drewN ?_ _ | refine blk_drew ?_ | refine blk_alloc ?_ _)); exact BK210.out⟩, ⟨by (with_reducible repeat (first | refine blk_drewN ?_ _ | refine blk_drew ?_ | refine blk_alloc ?_ _)); exact BK211.out⟩, ⟨by repeat (first | (with_reducible first | exact HB.out | apply below_alloc | apply pw_below_drewN | apply below_drew1 | refine below_set ?_ GE209.out | refine below_set ?_ GE210.out | refine below_set ?_ GE211.out) | exact HB.out)⟩⟩
                        · rw [if_neg c96] at H
                          have c96b0 : (a0.toList == ([62] : List UInt8)) = false := beq_eq_false_iff_ne.mpr c96
                          have c96b1 : (a0.toList != ([62] : List UInt8)) = true := bne_iff_ne.mpr c96
                          have H' := Aside0.mk H
                          clear H
                          go_wp2
                          go_meet
                          case rel => exact ⟨_, ((a0.toList == ([62, 61] : List UInt8))), (by first | rfl | (simp; done) | (simp [*]; done)), H', ⟨by have := HJ3.out; have := HJ40.out; first | omega | exact Nat.le_refl _⟩, ⟨by (with_reducible repeat (first | refine blk_drewN ?_ _ | refine blk_drew ?_ | refine blk_alloc ?_ _)); exact BK209.out⟩, ⟨by (with_reducible repeat (first | refine blk_drewN ?_ _ | refine blk_drew ?_ | refine blk_alloc ?_ _)); exact BK210.out⟩, ⟨by (with_reducible repeat (first | refine blk_drewN ?_ _ | refine blk_drew ?_ | refine blk_alloc ?_ _)); exact BK211.out⟩, ⟨by repeat (first | (with_reducible first | exact HB.out | apply below_alloc | apply pw_below_drewN | apply below_drew1 | refine below_set ?_ GE209.out | refine below_set ?_ GE210.out | refine below_set ?_ GE211.out) | exact HB.out)⟩⟩
              case rest =>
                clear HC91
                try clear c1
                try clear c2
                try clear p2
                try clear c3
                try clear c4
                try clear c5
                try clear c6
                try clear c7
                try clear c8
                try clear c8b0
                try clear c8b1
                try clear c9
                try clear c9b0
                try clear c9b1
                try clear c10
                try clear c10b0
                try clear c10b1
                try clear c11
                try clear c11b0
                try clear c11b1
                try clear c12
                try clear c14
                try clear c14b0
                try clear c14b1
                try clear c15
                try clear c16
                try clear c18
                try clear c20
                try clear c21
                try clear c22
                try clear c23
                try clear c24
                try clear c25
                try clear c28
                try clear c29
                try clear c30
                try clear c32
                try clear c35
                try clear c36
                try clear c38
                try clear c42
                try clear c42b0
                try clear c42b1
                try clear c43
                try clear c45
                try clear c45b0
                try clear c45b1
                try clear c46
                try clear c47
                try clear c49
                try clear c51
                try clear c52
                try clear c54
                try clear c55
                try clear c56
                try clear c58
                try clear c58b0
                try clear c58b1
                try clear c59
                try clear c59b0
                try clear c59b1
                try clear c61
                try clear c62
                try clear c65
                try clear c68
                try clear c69
                try clear c71
                try clear c75
                try clear c75b0
                try clear c75b1
                try clear c77
                try clear c78
                try clear c80
                try clear c85
                try clear c86
                try clear c89
                try clear c92
                try clear c92b0
                try clear c92b1
                try clear c93
                try clear c93b0
                try clear c93b1
                try clear c94
                try clear c94b0
                try clear c94b1
                try clear c95
                try clear c95b0
                try clear c95b1
                try clear c96
                try clear c96b0
                try clear c96b1
                try clear hcz17_0
                try clear hcz17_1
                try clear hcz19_0
                try clear hcz19_1
                try clear hcz22_0
                try clear hcz22_1
                try clear hcz26_0
                try clear hcz26_1
                try clear hcz31_0
                try clear hcz31_1
                try clear hcz33_0
                try clear hcz33_1
                try clear hcz34_0
                try clear hcz34_1
                try clear hcz37_0
                try clear hcz37_1
                try clear hcz39_0
                try clear hcz39_1
                try clear hcz40_0
                try clear hcz40_1
                try clear hcz48_0
                try clear hcz48_1
                try clear hcz50_0
                try clear hcz50_1
                try clear hcz53_0
                try clear hcz53_1
                try clear hcz57_0
                try clear hcz57_1
                try clear hcz63_0
                try clear hcz63_1
                try clear hcz66_0
                try clear hcz66_1
                try clear hcz70_0
                try clear hcz70_1
                try clear hcz72_0
                try clear hcz72_1
                try clear hcz74_0
                try clear hcz74_1
                try clear hcz79_0
                try clear hcz79_1
                try clear hcz81_0
                try clear hcz81_1
                try clear hcz83_0
                try clear hcz83_1
                try clear hcz87_0
                try clear hcz87_1
                try clear hcz90_0
                try clear hcz90_1
                try clear hfz17_0
                try clear hfz17_1
                try clear hfz19_0
                try clear hfz19_1
                try clear hfz22_0
                try clear hfz22_1
                try clear hfz26_0
                try clear hfz26_1
                try clear hfz31_0
                try clear hfz31_1
                try clear hfz33_0
                try clear hfz33_1
                try clear hfz34_0
                try clear hfz34_1
                try clear hfz37_0
                try clear hfz37_1
                try clear hfz39_0
                try clear hfz39_1
                try clear hfz40_0
                try clear hfz40_1
                try clear hfz48_0
                try clear hfz48_1
                try clear hfz50_0
                try clear hfz50_1
                try clear hfz53_0
                try clear hfz53_1
                try clear hfz57_0
                try clear hfz57_1
                try clear hfz63_0
                try clear hfz63_1
                try clear hfz66_0
                try clear hfz66_1
                try clear hfz70_0
                try clear hfz70_1
                try clear hfz72_0
                try clear hfz72_1
                try clear hfz74_0
                try clear hfz74_1
                try clear hfz79_0
                try clear hfz79_1
                try clear hfz81_0
                try clear hfz81_1
                try clear hfz83_0
                try clear hfz83_1
                try clear hfz87_0
                try clear hfz87_1
                try clear hfz90_0
                try clear hfz90_1
                try clear p2
                obtain ⟨kq, x73_90, rfl, HA, HJ90, BK209, BK210, BK211, HB⟩ := hcut
                cases kq with
                | zero => exact absurd HA.out (by simp [pascalineref10_Two.j4])
                | succ kj90 =>
                  have H := HA.out
                  clear HA
                  simp only [pascalineref10_Two.j4] at H
                  by_cases c97 : x73_90 = true
                  · subst c97
                    have H1 : (if a1_0 = a2_0 then ((pascalineref10_Right.f a1_0 a1_1).bind fun t222 => (if t222 = true then (if a0.toList = ([61] : List UInt8) then (pascalineref10_Two.j5 kj90 a0 false a1_0 a1_1 a2_0 a2_1) else (if a0.toList = ([35] : List UInt8) then (pascalineref10_Two.j5 kj90 a0 false a1_0 a1_1 a2_0 a2_1) else (if a1_0 = 1 then (pascalineref10_Two.j5 kj90 a0 false a1_0 a1_1 a2_0 a2_1) else (pascalineref10_Two.j5 kj90 a0 (a1_0 != 3) a1_0 a1_1 a2_0 a2_1)))) else (pascalineref10_Two.j5 kj90 a0 true a1_0 a1_1 a2_0 a2_1))) else (pascalineref10_Two.j5 kj90 a0 true a1_0 a1_1 a2_0 a2_1)) = some (r1, r2, r3) := by rw [if_pos rfl] at H; exact H
                    clear H
                    have H := H1
                    clear H1
                    have HC98 := Aside0.mk H
                    clear H
                    go_upto_region 27 with (fail)
                    go_cut [107] (fun v107 wc => ∃ (kq : Nat) (x107_97 : Bool), v107 = .bool x107_97 ∧ Aside0 (pascalineref10_Two.j5 kq a0 x107_97 a1_0 a1_1 a2_0 a2_1 = some (r1, r2, r3)) ∧ Aside0 (kq ≤ kj90) ∧ Aside0 (wc.heap[gb209]? = some (.cells #[.int .i64 a1_0, .int .i32 a1_1] 28 (0, 0))) ∧ Aside0 (wc.heap[gb210]? = some (.cells #[.int .i64 a2_0, .int .i32 a2_1] 28 (0, 0))) ∧ Aside0 (wc.heap[gb211]? = some (.cells #[.int .i64 0, .int .i32 0] 28 (0, 0))) ∧ Aside0 (Below w.heap.size w wc))
                    case first =>
                      have H := HC98.out
                      clear HC98
                      by_cases c99 : a1_0 = a2_0
                      · rw [if_pos c99] at H
                        have c99b0 : (a1_0 == a2_0) = true := beq_iff_eq.mpr c99
                        have c99b1 : (a1_0 != a2_0) = false := bne_eq_false_iff_eq.mpr c99
                        clear c99
                        (first | rw [c99b0] | (simp only [i64_w, i32_w]; rw [c99b0]) | skip)
                        replace H := Option.bind_eq_some_iff.mp H
                        obtain ⟨t222, A1000, H⟩ := H
                        replace H : (if t222 = true then (if a0.toList = ([61] : List UInt8) then (pascalineref10_Two.j5 kj90 a0 false a1_0 a1_1 a2_0 a2_1) else (if a0.toList = ([35] : List UInt8) then (pascalineref10_Two.j5 kj90 a0 false a1_0 a1_1 a2_0 a2_1) else (if a1_0 = 1 then (pascalineref10_Two.j5 kj90 a0 false a1_0 a1_1 a2_0 a2_1) else (pascalineref10_Two.j5 kj90 a0 (a1_0 != 3) a1_0 a1_1 a2_0 a2_1)))) else (pascalineref10_Two.j5 kj90 a0 true a1_0 a1_1 a2_0 a2_1)) = some (r1, r2, r3) := H
                        have A100 := Aside0.mk A1000
                        clear A1000
                        by_cases c101 : t222 = true
                        · subst c101
                          have H1 : (if a0.toList = ([61] : List UInt8) then (pascalineref10_Two.j5 kj90 a0 false a1_0 a1_1 a2_0 a2_1) else (if a0.toList = ([35] : List UInt8) then (pascalineref10_Two.j5 kj90 a0 false a1_0 a1_1 a2_0 a2_1) else (if a1_0 = 1 then (pascalineref10_Two.j5 kj90 a0 false a1_0 a1_1 a2_0 a2_1) else (pascalineref10_Two.j5 kj90 a0 (a1_0 != 3) a1_0 a1_1 a2_0 a2_1)))) = some (r1, r2, r3) := by rw [if_pos rfl] at H; exact H
                          clear H
                          have H := H1
                          clear H1
                          by_cases c102 : a0.toList = ([61] : List UInt8)
                          · rw [if_pos c102] at H
                            have c102b0 : (a0.toList == ([61] : List UInt8)) = true := beq_iff_eq.mpr c102
                            have c102b1 : (a0.toList != ([61] : List UInt8)) = false := bne_eq_false_iff_eq.mpr c102
                            clear c102
                            have H' := Aside0.mk H
                            clear H
                            have hnb103 := NB209_210.out
                            have hnc103 := NB210_209.out
                            have hnb104 := NB209_211.out
                            have hnc104 := NB211_209.out
                            have hcz105_0 : wc.cell? ⟨gb209, 0, none⟩ = some (.int .i64 a1_0) := (blk_cell BK209.out 0).trans rfl
                            have hcz105_1 : wc.cell? ⟨gb209, 1, none⟩ = some (.int .i32 a1_1) := (blk_cell BK209.out 1).trans rfl
                            have hfz105_0 := blk_frozen BK209.out 0
                            have hfz105_1 := blk_frozen BK209.out 1
                            have hnb106 := NB210_211.out
                            have hnc106 := NB211_210.out
                            have hcz107_0 : wc.cell? ⟨gb210, 0, none⟩ = some (.int .i64 a2_0) := (blk_cell BK210.out 0).trans rfl
                            have hcz107_1 : wc.cell? ⟨gb210, 1, none⟩ = some (.int .i32 a2_1) := (blk_cell BK210.out 1).trans rfl
                            have hfz107_0 := blk_frozen BK210.out 0
                            have hfz107_1 := blk_frozen BK210.out 1
                            go_wp2_with (first | (go_at_call 15; (with_reducible refine (pascalineref10_Right.calls a1_0 a1_1 true _ A100.out).mono ?_); rintro e w108 ⟨rfl, hb⟩; have n0_ := Aside0.mk (blk_below (g := gb209) (o := .cells #[.int .i64 a1_0, .int .i32 a1_1] 28 (0, 0)) (by (with_reducible repeat (first | refine blk_drewN ?_ _ | refine blk_drew ?_ | refine blk_alloc ?_ _)); exact BK209.out) hb); have n1_ := Aside0.mk (blk_below (g := gb210) (o := .cells #[.int .i64 a2_0, .int .i32 a2_1] 28 (0, 0)) (by (with_reducible repeat (first | refine blk_drewN ?_ _ | refine blk_drew ?_ | refine blk_alloc ?_ _)); exact BK210.out) hb); have n2_ := Aside0.mk (blk_below (g := gb211) (o := .cells #[.int .i64 0, .int .i32 0] 28 (0, 0)) (by (with_reducible repeat (first | refine blk_drewN ?_ _ | refine blk_drew ?_ | refine blk_alloc ?_ _)); exact BK211.out) hb); have n3_ := Aside0.mk (below_step (by repeat (first | (with_reducible first | exact HB.out | apply below_alloc | apply pw_below_drewN | apply below_drew1 | refine below_set ?_ GE209.out | refine below_set ?_ GE210.out | refine below_set ?_ GE211.out) | exact HB.out)) hb); clear BK209; clear BK210; clear BK211; clear HB; have BK209 := n0_; have BK210 := n1_; have BK211 := n2_; have HB := n3_; clear n0_ n1_ n2_ n3_; (try clear hb); (try clear hb2); (try clear hk); (try clear hi)))
                            go_meet
                            case rel => exact ⟨_, (false), (by first | rfl | (simp; done) | (simp [*]; done)), H', ⟨by have := HJ3.out; have := HJ40.out; have := HJ90.out; first | omega | exact Nat.le_refl _⟩, ⟨by (with_reducible repeat (first | refine blk_drewN ?_ _ | refine blk_drew ?_ | refine blk_alloc ?_ _)); exact BK209.out⟩, ⟨by (with_reducible repeat (first | refine blk_drewN ?_ _ | refine blk_drew ?_ | refine blk_alloc ?_ _)); exact BK210.out⟩, ⟨by (with_reducible repeat (first | refine blk_drewN ?_ _ | refine blk_drew ?_ | refine blk_alloc ?_ _)); exact BK211.out⟩, ⟨by repeat (first | (with_reducible first | exact HB.out | apply below_alloc | apply pw_below_drewN | apply below_drew1 | refine below_set ?_ GE209.out | refine below_set ?_ GE210.out | refine below_set ?_ GE211.out) | exact HB.out)⟩⟩
                          · rw [if_neg c102] at H
                            have c102b0 : (a0.toList == ([61] : List UInt8)) = false := beq_eq_false_iff_ne.mpr c102
                            have c102b1 : (a0.toList != ([61] : List UInt8)) = true := bne_iff_ne.mpr c102
                            by_cases c109 : a0.toList = ([35] : List UInt8)
                            · rw [if_pos c109] at H
                              have c109b0 : (a0.toList == ([35] : List UInt8)) = true := beq_iff_eq.mpr c109
                              have c109b1 : (a0.toList != ([35] : List UInt8)) = false := bne_eq_false_iff_eq.mpr c109
                              clear c109
                              have H' := Aside0.mk H
                              clear H
                              have hnb110 := NB209_210.out
                              have hnc110 := NB210_209.out
                              have hnb111 := NB209_211.out
                              have hnc111 := NB211_209.out
                              have hcz112_0 : wc.cell? ⟨gb209, 0, none⟩ = some (.int .i64 a1_0) := (blk_cell BK209.out 0).trans rfl
                              have hcz112_1 : wc.cell? ⟨gb209, 1, none⟩ = some (.int .i32 a1_1) := (blk_cell BK209.out 1).trans rfl
                              have hfz112_0 := blk_frozen BK209.out 0
                              have hfz112_1 := blk_frozen BK209.out 1
                              have hnb113 := NB210_211.out
                              have hnc113 := NB211_210.out
                              have hcz114_0 : wc.cell? ⟨gb210, 0, none⟩ = some (.int .i64 a2_0) := (blk_cell BK210.out 0).trans rfl
                              have hcz114_1 : wc.cell? ⟨gb210, 1, none⟩ = some (.int .i32 a2_1) := (blk_cell BK210.out 1).trans rfl
                              have hfz114_0 := blk_frozen BK210.out 0
                              have hfz114_1 := blk_frozen BK210.out 1
                              go_wp2_with (first | (go_at_call 15; (with_reducible refine (pascalineref10_Right.calls a1_0 a1_1 true _ A100.out).mono ?_); rintro e w115 ⟨rfl, hb⟩; have n0_ := Aside0.mk (blk_below (g := gb209) (o := .cells #[.int .i64 a1_0, .int .i32 a1_1] 28 (0, 0)) (by (with_reducible repeat (first | refine blk_drewN ?_ _ | refine blk_drew ?_ | refine blk_alloc ?_ _)); exact BK209.out) hb); have n1_ := Aside0.mk (blk_below (g := gb210) (o := .cells #[.int .i64 a2_0, .int .i32 a2_1] 28 (0, 0)) (by (with_reducible repeat (first | refine blk_drewN ?_ _ | refine blk_drew ?_ | refine blk_alloc ?_ _)); exact BK210.out) hb); have n2_ := Aside0.mk (blk_below (g := gb211) (o := .cells #[.int .i64 0, .int .i32 0] 28 (0, 0)) (by (with_reducible repeat (first | refine blk_drewN ?_ _ | refine blk_drew ?_ | refine blk_alloc ?_ _)); exact BK211.out) hb); have n3_ := Aside0.mk (below_step (by repeat (first | (with_reducible first | exact HB.out | apply below_alloc | apply pw_below_drewN | apply below_drew1 | refine below_set ?_ GE209.out | refine below_set ?_ GE210.out | refine below_set ?_ GE211.out) | exact HB.out)) hb); clear BK209; clear BK210; clear BK211; clear HB; have BK209 := n0_; have BK210 := n1_; have BK211 := n2_; have HB := n3_; clear n0_ n1_ n2_ n3_; (try clear hb); (try clear hb2); (try clear hk); (try clear hi)))
                              go_meet
                              case rel => exact ⟨_, (false), (by first | rfl | (simp; done) | (simp [*]; done)), H', ⟨by have := HJ3.out; have := HJ40.out; have := HJ90.out; first | omega | exact Nat.le_refl _⟩, ⟨by (with_reducible repeat (first | refine blk_drewN ?_ _ | refine blk_drew ?_ | refine blk_alloc ?_ _)); exact BK209.out⟩, ⟨by (with_reducible repeat (first | refine blk_drewN ?_ _ | refine blk_drew ?_ | refine blk_alloc ?_ _)); exact BK210.out⟩, ⟨by (with_reducible repeat (first | refine blk_drewN ?_ _ | refine blk_drew ?_ | refine blk_alloc ?_ _)); exact BK211.out⟩, ⟨by repeat (first | (with_reducible first | exact HB.out | apply below_alloc | apply pw_below_drewN | apply below_drew1 | refine below_set ?_ GE209.out | refine below_set ?_ GE210.out | refine below_set ?_ GE211.out) | exact HB.out)⟩⟩
                            · rw [if_neg c109] at H
                              have c109b0 : (a0.toList == ([35] : List UInt8)) = false := beq_eq_false_iff_ne.mpr c109
                              have c109b1 : (a0.toList != ([35] : List UInt8)) = true := bne_iff_ne.mpr c109
                              by_cases c116 : a1_0 = 1
                              · rw [if_pos c116] at H
                                have c116b0 : (a1_0 == 1) = true := beq_iff_eq.mpr c116
                                have c116b1 : (a1_0 != 1) = false := bne_eq_false_iff_eq.mpr c116
                                clear c116
                                have H' := Aside0.mk H
                                clear H
                                have hnb117 := NB209_210.out
                                have hnc117 := NB210_209.out
                                have hnb118 := NB209_211.out
                                have hnc118 := NB211_209.out
                                have hcz119_0 : wc.cell? ⟨gb209, 0, none⟩ = some (.int .i64 a1_0) := (blk_cell BK209.out 0).trans rfl
                                have hcz119_1 : wc.cell? ⟨gb209, 1, none⟩ = some (.int .i32 a1_1) := (blk_cell BK209.out 1).trans rfl
                                have hfz119_0 := blk_frozen BK209.out 0
                                have hfz119_1 := blk_frozen BK209.out 1
                                have hnb120 := NB210_211.out
                                have hnc120 := NB211_210.out
                                have hcz121_0 : wc.cell? ⟨gb210, 0, none⟩ = some (.int .i64 a2_0) := (blk_cell BK210.out 0).trans rfl
                                have hcz121_1 : wc.cell? ⟨gb210, 1, none⟩ = some (.int .i32 a2_1) := (blk_cell BK210.out 1).trans rfl
                                have hfz121_0 := blk_frozen BK210.out 0
                                have hfz121_1 := blk_frozen BK210.out 1
                                go_wp2_with (first | (go_at_call 15; (with_reducible refine (pascalineref10_Right.calls a1_0 a1_1 true _ A100.out).mono ?_); rintro e w122 ⟨rfl, hb⟩; have n0_ := Aside0.mk (blk_below (g := gb209) (o := .cells #[.int .i64 a1_0, .int .i32 a1_1] 28 (0, 0)) (by (with_reducible repeat (first | refine blk_drewN ?_ _ | refine blk_drew ?_ | refine blk_alloc ?_ _)); exact BK209.out) hb); have n1_ := Aside0.mk (blk_below (g := gb210) (o := .cells #[.int .i64 a2_0, .int .i32 a2_1] 28 (0, 0)) (by (with_reducible repeat (first | refine blk_drewN ?_ _ | refine blk_drew ?_ | refine blk_alloc ?_ _)); exact BK210.out) hb); have n2_ := Aside0.mk (blk_below (g := gb211) (o := .cells #[.int .i64 0, .int .i32 0] 28 (0, 0)) (by (with_reducible repeat (first | refine blk_drewN ?_ _ | refine blk_drew ?_ | refine blk_alloc ?_ _)); exact BK211.out) hb); have n3_ := Aside0.mk (below_step (by repeat (first | (with_reducible first | exact HB.out | apply below_alloc | apply pw_below_drewN | apply below_drew1 | refine below_set ?_ GE209.out | refine below_set ?_ GE210.out | refine below_set ?_ GE211.out) | exact HB.out)) hb); clear BK209; clear BK210; clear BK211; clear HB; have BK209 := n0_; have BK210 := n1_; have BK211 := n2_; have HB := n3_; clear n0_ n1_ n2_ n3_; (try clear hb); (try clear hb2); (try clear hk); (try clear hi); have hcz123_0 : w122.cell? ⟨gb209, 0, none⟩ = some (.int .i64 a1_0) := (blk_cell BK209.out 0).trans rfl; have hcz123_1 : w122.cell? ⟨gb209, 1, none⟩ = some (.int .i32 a1_1) := (blk_cell BK209.out 1).trans rfl; have hfz123_0 := blk_frozen BK209.out 0; have hfz123_1 := blk_frozen BK209.out 1))
                                go_meet
                                case rel => exact ⟨_, (false), (by first | rfl | (simp; done) | (simp [*]; done)), H', ⟨by have := HJ3.out; have := HJ40.out; have := HJ90.out; first | omega | exact Nat.le_refl _⟩, ⟨by (with_reducible repeat (first | refine blk_drewN ?_ _ | refine blk_drew ?_ | refine blk_alloc ?_ _)); exact BK209.out⟩, ⟨by (with_reducible repeat (first | refine blk_drewN ?_ _ | refine blk_drew ?_ | refine blk_alloc ?_ _)); exact BK210.out⟩, ⟨by (with_reducible repeat (first | refine blk_drewN ?_ _ | refine blk_drew ?_ | refine blk_alloc ?_ _)); exact BK211.out⟩, ⟨by repeat (first | (with_reducible first | exact HB.out | apply below_alloc | apply pw_below_drewN | apply below_drew1 | refine below_set ?_ GE209.out | refine below_set ?_ GE210.out | refine below_set ?_ GE211.out) | exact HB.out)⟩⟩
                              · rw [if_neg c116] at H
                                have c116b0 : (a1_0 == 1) = false := beq_eq_false_iff_ne.mpr c116
                                have c116b1 : (a1_0 != 1) = true := bne_iff_ne.mpr c116
                                have H' := Aside0.mk H
                                clear H
                                have hnb124 := NB209_210.out
                                have hnc124 := NB210_209.out
                                have hnb125 := NB209_211.out
                                have hnc125 := NB211_209.out
                                have hcz126_0 : wc.cell? ⟨gb209, 0, none⟩ = some (.int .i64 a1_0) := (blk_cell BK209.out 0).trans rfl
                                have hcz126_1 : wc.cell? ⟨gb209, 1, none⟩ = some (.int .i32 a1_1) := (blk_cell BK209.out 1).trans rfl
                                have hfz126_0 := blk_frozen BK209.out 0
                                have hfz126_1 := blk_frozen BK209.out 1
                                have hnb127 := NB210_211.out
                                have hnc127 := NB211_210.out
                                have hcz128_0 : wc.cell? ⟨gb210, 0, none⟩ = some (.int .i64 a2_0) := (blk_cell BK210.out 0).trans rfl
                                have hcz128_1 : wc.cell? ⟨gb210, 1, none⟩ = some (.int .i32 a2_1) := (blk_cell BK210.out 1).trans rfl
                                have hfz128_0 := blk_frozen BK210.out 0
                                have hfz128_1 := blk_frozen BK210.out 1
                                go_wp2_with (first | (go_at_call 15; (with_reducible refine (pascalineref10_Right.calls a1_0 a1_1 true _ A100.out).mono ?_); rintro e w129 ⟨rfl, hb⟩; have n0_ := Aside0.mk (blk_below (g := gb209) (o := .cells #[.int .i64 a1_0, .int .i32 a1_1] 28 (0, 0)) (by (with_reducible repeat (first | refine blk_drewN ?_ _ | refine blk_drew ?_ | refine blk_alloc ?_ _)); exact BK209.out) hb); have n1_ := Aside0.mk (blk_below (g := gb210) (o := .cells #[.int .i64 a2_0, .int .i32 a2_1] 28 (0, 0)) (by (with_reducible repeat (first | refine blk_drewN ?_ _ | refine blk_drew ?_ | refine blk_alloc ?_ _)); exact BK210.out) hb); have n2_ := Aside0.mk (blk_below (g := gb211) (o := .cells #[.int .i64 0, .int .i32 0] 28 (0, 0)) (by (with_reducible repeat (first | refine blk_drewN ?_ _ | refine blk_drew ?_ | refine blk_alloc ?_ _)); exact BK211.out) hb); have n3_ := Aside0.mk (below_step (by repeat (first | (with_reducible first | exact HB.out | apply below_alloc | apply pw_below_drewN | apply below_drew1 | refine below_set ?_ GE209.out | refine below_set ?_ GE210.out | refine below_set ?_ GE211.out) | exact HB.out)) hb); clear BK209; clear BK210; clear BK211; clear HB; have BK209 := n0_; have BK210 := n1_; have BK211 := n2_; have HB := n3_; clear n0_ n1_ n2_ n3_; (try clear hb); (try clear hb2); (try clear hk); (try clear hi); have hcz130_0 : w129.cell? ⟨gb209, 0, none⟩ = some (.int .i64 a1_0) := (blk_cell BK209.out 0).trans rfl; have hcz130_1 : w129.cell? ⟨gb209, 1, none⟩ = some (.int .i32 a1_1) := (blk_cell BK209.out 1).trans rfl; have hfz130_0 := blk_frozen BK209.out 0; have hfz130_1 := blk_frozen BK209.out 1))
                                go_meet
                                case rel => exact ⟨_, ((a1_0 != 3)), (by first | rfl | (simp; done) | (simp [*]; done)), H', ⟨by have := HJ3.out; have := HJ40.out; have := HJ90.out; first | omega | exact Nat.le_refl _⟩, ⟨by (with_reducible repeat (first | refine blk_drewN ?_ _ | refine blk_drew ?_ | refine blk_alloc ?_ _)); exact BK209.out⟩, ⟨by (with_reducible repeat (first | refine blk_drewN ?_ _ | refine blk_drew ?_ | refine blk_alloc ?_ _)); exact BK210.out⟩, ⟨by (with_reducible repeat (first | refine blk_drewN ?_ _ | refine blk_drew ?_ | refine blk_alloc ?_ _)); exact BK211.out⟩, ⟨by repeat (first | (with_reducible first | exact HB.out | apply below_alloc | apply pw_below_drewN | apply below_drew1 | refine below_set ?_ GE209.out | refine below_set ?_ GE210.out | refine below_set ?_ GE211.out) | exact HB.out)⟩⟩
                        · replace c101 := Bool.eq_false_iff.mpr c101
                          subst c101
                          have H1 : (pascalineref10_Two.j5 kj90 a0 true a1_0 a1_1 a2_0 a2_1) = some (r1, r2, r3) := by rw [if_neg (show ¬ (false = true) by decide)] at H; exact H
                          clear H
                          have H := H1
                          clear H1
                          have H' := Aside0.mk H
                          clear H
                          have hnb131 := NB209_210.out
                          have hnc131 := NB210_209.out
                          have hnb132 := NB209_211.out
                          have hnc132 := NB211_209.out
                          have hcz133_0 : wc.cell? ⟨gb209, 0, none⟩ = some (.int .i64 a1_0) := (blk_cell BK209.out 0).trans rfl
                          have hcz133_1 : wc.cell? ⟨gb209, 1, none⟩ = some (.int .i32 a1_1) := (blk_cell BK209.out 1).trans rfl
                          have hfz133_0 := blk_frozen BK209.out 0
                          have hfz133_1 := blk_frozen BK209.out 1
                          have hnb134 := NB210_211.out
                          have hnc134 := NB211_210.out
                          have hcz135_0 : wc.cell? ⟨gb210, 0, none⟩ = some (.int .i64 a2_0) := (blk_cell BK210.out 0).trans rfl
                          have hcz135_1 : wc.cell? ⟨gb210, 1, none⟩ = some (.int .i32 a2_1) := (blk_cell BK210.out 1).trans rfl
                          have hfz135_0 := blk_frozen BK210.out 0
                          have hfz135_1 := blk_frozen BK210.out 1
                          go_wp2_with (first | (go_at_call 15; (with_reducible refine (pascalineref10_Right.calls a1_0 a1_1 false _ A100.out).mono ?_); rintro e w136 ⟨rfl, hb⟩; have n0_ := Aside0.mk (blk_below (g := gb209) (o := .cells #[.int .i64 a1_0, .int .i32 a1_1] 28 (0, 0)) (by (with_reducible repeat (first | refine blk_drewN ?_ _ | refine blk_drew ?_ | refine blk_alloc ?_ _)); exact BK209.out) hb); have n1_ := Aside0.mk (blk_below (g := gb210) (o := .cells #[.int .i64 a2_0, .int .i32 a2_1] 28 (0, 0)) (by (with_reducible repeat (first | refine blk_drewN ?_ _ | refine blk_drew ?_ | refine blk_alloc ?_ _)); exact BK210.out) hb); have n2_ := Aside0.mk (blk_below (g := gb211) (o := .cells #[.int .i64 0, .int .i32 0] 28 (0, 0)) (by (with_reducible repeat (first | refine blk_drewN ?_ _ | refine blk_drew ?_ | refine blk_alloc ?_ _)); exact BK211.out) hb); have n3_ := Aside0.mk (below_step (by repeat (first | (with_reducible first | exact HB.out | apply below_alloc | apply pw_below_drewN | apply below_drew1 | refine below_set ?_ GE209.out | refine below_set ?_ GE210.out | refine below_set ?_ GE211.out) | exact HB.out)) hb); clear BK209; clear BK210; clear BK211; clear HB; have BK209 := n0_; have BK210 := n1_; have BK211 := n2_; have HB := n3_; clear n0_ n1_ n2_ n3_; (try clear hb); (try clear hb2); (try clear hk); (try clear hi)))
                          go_meet
                          case rel => exact ⟨_, (true), (by first | rfl | (simp; done) | (simp [*]; done)), H', ⟨by have := HJ3.out; have := HJ40.out; have := HJ90.out; first | omega | exact Nat.le_refl _⟩, ⟨by (with_reducible repeat (first | refine blk_drewN ?_ _ | refine blk_drew ?_ | refine blk_alloc ?_ _)); exact BK209.out⟩, ⟨by (with_reducible repeat (first | refine blk_drewN ?_ _ | refine blk_drew ?_ | refine blk_alloc ?_ _)); exact BK210.out⟩, ⟨by (with_reducible repeat (first | refine blk_drewN ?_ _ | refine blk_drew ?_ | refine blk_alloc ?_ _)); exact BK211.out⟩, ⟨by repeat (first | (with_reducible first | exact HB.out | apply below_alloc | apply pw_below_drewN | apply below_drew1 | refine below_set ?_ GE209.out | refine below_set ?_ GE210.out | refine below_set ?_ GE211.out) | exact HB.out)⟩⟩
                      · rw [if_neg c99] at H
                        have c99b0 : (a1_0 == a2_0) = false := beq_eq_false_iff_ne.mpr c99
                        have c99b1 : (a1_0 != a2_0) = true := bne_iff_ne.mpr c99
                        (first | rw [c99b0] | (simp only [i64_w, i32_w]; rw [c99b0]) | skip)
                        have H' := Aside0.mk H
                        clear H
                        have hnb137 := NB209_210.out
                        have hnc137 := NB210_209.out
                        have hnb138 := NB209_211.out
                        have hnc138 := NB211_209.out
                        have hcz139_0 : wc.cell? ⟨gb209, 0, none⟩ = some (.int .i64 a1_0) := (blk_cell BK209.out 0).trans rfl
                        have hcz139_1 : wc.cell? ⟨gb209, 1, none⟩ = some (.int .i32 a1_1) := (blk_cell BK209.out 1).trans rfl
                        have hfz139_0 := blk_frozen BK209.out 0
                        have hfz139_1 := blk_frozen BK209.out 1
                        have hnb140 := NB210_211.out
                        have hnc140 := NB211_210.out
                        have hcz141_0 : wc.cell? ⟨gb210, 0, none⟩ = some (.int .i64 a2_0) := (blk_cell BK210.out 0).trans rfl
                        have hcz141_1 : wc.cell? ⟨gb210, 1, none⟩ = some (.int .i32 a2_1) := (blk_cell BK210.out 1).trans rfl
                        have hfz141_0 := blk_frozen BK210.out 0
                        have hfz141_1 := blk_frozen BK210.out 1
                        go_wp2
                        go_meet
                        case rel => exact ⟨_, (true), (by first | rfl | (simp; done) | (simp [*]; done)), H', ⟨by have := HJ3.out; have := HJ40.out; have := HJ90.out; first | omega | exact Nat.le_refl _⟩, ⟨by (with_reducible repeat (first | refine blk_drewN ?_ _ | refine blk_drew ?_ | refine blk_alloc ?_ _)); exact BK209.out⟩, ⟨by (with_reducible repeat (first | refine blk_drewN ?_ _ | refine blk_drew ?_ | refine blk_alloc ?_ _)); exact BK210.out⟩, ⟨by (with_reducible repeat (first | refine blk_drewN ?_ _ | refine blk_drew ?_ | refine blk_alloc ?_ _)); exact BK211.out⟩, ⟨by repeat (first | (with_reducible first | exact HB.out | apply below_alloc | apply pw_below_drewN | apply below_drew1 | refine below_set ?_ GE209.out | refine below_set ?_ GE210.out | refine below_set ?_ GE211.out) | exact HB.out)⟩⟩
                    case rest =>
                      clear HC98
                      try clear c1
                      try clear c2
                      try clear p2
                      try clear c3
                      try clear c4
                      try clear c5
                      try clear c6
                      try clear c7
                      try clear c8
                      try clear c8b0
                      try clear c8b1
                      try clear c9
                      try clear c9b0
                      try clear c9b1
                      try clear c10
                      try clear c10b0
                      try clear c10b1
                      try clear c11
                      try clear c11b0
                      try clear c11b1
                      try clear c12
                      try clear c13
                      try clear c14
                      try clear c14b0
                      try clear c14b1
                      try clear c15
                      try clear c16
                      try clear c18
                      try clear c20
                      try clear c21
                      try clear c22
                      try clear c23
                      try clear c24
                      try clear c25
                      try clear c28
                      try clear c29
                      try clear c30
                      try clear c32
                      try clear c35
                      try clear c36
                      try clear c38
                      try clear c42
                      try clear c42b0
                      try clear c42b1
                      try clear c43
                      try clear c45
                      try clear c45b0
                      try clear c45b1
                      try clear c46
                      try clear c47
                      try clear c49
                      try clear c51
                      try clear c52
                      try clear c54
                      try clear c55
                      try clear c56
                      try clear c58
                      try clear c58b0
                      try clear c58b1
                      try clear c59
                      try clear c59b0
                      try clear c59b1
                      try clear c61
                      try clear c62
                      try clear c65
                      try clear c68
                      try clear c69
                      try clear c71
                      try clear c75
                      try clear c75b0
                      try clear c75b1
                      try clear c77
                      try clear c78
                      try clear c80
                      try clear c85
                      try clear c86
                      try clear c89
                      try clear c92
                      try clear c92b0
                      try clear c92b1
                      try clear c93
                      try clear c93b0
                      try clear c93b1
                      try clear c94
                      try clear c94b0
                      try clear c94b1
                      try clear c95
                      try clear c95b0
                      try clear c95b1
                      try clear c96
                      try clear c96b0
                      try clear c96b1
                      try clear c97
                      try clear c99
                      try clear c99b0
                      try clear c99b1
                      try clear c101
                      try clear c102
                      try clear c102b0
                      try clear c102b1
                      try clear c103
                      try clear c104
                      try clear c106
                      try clear c109
                      try clear c109b0
                      try clear c109b1
                      try clear c110
                      try clear c111
                      try clear c113
                      try clear c116
                      try clear c116b0
                      try clear c116b1
                      try clear c117
                      try clear c118
                      try clear c120
                      try clear c124
                      try clear c125
                      try clear c127
                      try clear c131
                      try clear c132
                      try clear c134
                      try clear c137
                      try clear c138
                      try clear c140
                      try clear hcz105_0
                      try clear hcz105_1
                      try clear hcz107_0
                      try clear hcz107_1
                      try clear hcz112_0
                      try clear hcz112_1
                      try clear hcz114_0
                      try clear hcz114_1
                      try clear hcz119_0
                      try clear hcz119_1
                      try clear hcz121_0
                      try clear hcz121_1
                      try clear hcz123_0
                      try clear hcz123_1
                      try clear hcz126_0
                      try clear hcz126_1
                      try clear hcz128_0
                      try clear hcz128_1
                      try clear hcz130_0
                      try clear hcz130_1
                      try clear hcz133_0
                      try clear hcz133_1
                      try clear hcz135_0
                      try clear hcz135_1
                      try clear hcz139_0
                      try clear hcz139_1
                      try clear hcz141_0
                      try clear hcz141_1
                      try clear hcz17_0
                      try clear hcz17_1
                      try clear hcz19_0
                      try clear hcz19_1
                      try clear hcz22_0
                      try clear hcz22_1
                      try clear hcz26_0
                      try clear hcz26_1
                      try clear hcz31_0
                      try clear hcz31_1
                      try clear hcz33_0
                      try clear hcz33_1
                      try clear hcz34_0
                      try clear hcz34_1
                      try clear hcz37_0
                      try clear hcz37_1
                      try clear hcz39_0
                      try clear hcz39_1
                      try clear hcz40_0
                      try clear hcz40_1
                      try clear hcz48_0
                      try clear hcz48_1
                      try clear hcz50_0
                      try clear hcz50_1
                      try clear hcz53_0
                      try clear hcz53_1
                      try clear hcz57_0
                      try clear hcz57_1
                      try clear hcz63_0
                      try clear hcz63_1
                      try clear hcz66_0
                      try clear hcz66_1
                      try clear hcz70_0
                      try clear hcz70_1
                      try clear hcz72_0
                      try clear hcz72_1
                      try clear hcz74_0
                      try clear hcz74_1
                      try clear hcz79_0
                      try clear hcz79_1
                      try clear hcz81_0
                      try clear hcz81_1
                      try clear hcz83_0
                      try clear hcz83_1
                      try clear hcz87_0
                      try clear hcz87_1
                      try clear hcz90_0
                      try clear hcz90_1
                      try clear hfz105_0
                      try clear hfz105_1
                      try clear hfz107_0
                      try clear hfz107_1
                      try clear hfz112_0
                      try clear hfz112_1
                      try clear hfz114_0
                      try clear hfz114_1
                      try clear hfz119_0
                      try clear hfz119_1
                      try clear hfz121_0
                      try clear hfz121_1
                      try clear hfz123_0
                      try clear hfz123_1
                      try clear hfz126_0
                      try clear hfz126_1
                      try clear hfz128_0
                      try clear hfz128_1
                      try clear hfz130_0
                      try clear hfz130_1
                      try clear hfz133_0
                      try clear hfz133_1
                      try clear hfz135_0
                      try clear hfz135_1
                      try clear hfz139_0
                      try clear hfz139_1
                      try clear hfz141_0
                      try clear hfz141_1
                      try clear hfz17_0
                      try clear hfz17_1
                      try clear hfz19_0
                      try clear hfz19_1
                      try clear hfz22_0
                      try clear hfz22_1
                      try clear hfz26_0
                      try clear hfz26_1
                      try clear hfz31_0
                      try clear hfz31_1
                      try clear hfz33_0
                      try clear hfz33_1
                      try clear hfz34_0
                      try clear hfz34_1
                      try clear hfz37_0
                      try clear hfz37_1
                      try clear hfz39_0
                      try clear hfz39_1
                      try clear hfz40_0
                      try clear hfz40_1
                      try clear hfz48_0
                      try clear hfz48_1
                      try clear hfz50_0
                      try clear hfz50_1
                      try clear hfz53_0
                      try clear hfz53_1
                      try clear hfz57_0
                      try clear hfz57_1
                      try clear hfz63_0
                      try clear hfz63_1
                      try clear hfz66_0
                      try clear hfz66_1
                      try clear hfz70_0
                      try clear hfz70_1
                      try clear hfz72_0
                      try clear hfz72_1
                      try clear hfz74_0
                      try clear hfz74_1
                      try clear hfz79_0
                      try clear hfz79_1
                      try clear hfz81_0
                      try clear hfz81_1
                      try clear hfz83_0
                      try clear hfz83_1
                      try clear hfz87_0
                      try clear hfz87_1
                      try clear hfz90_0
                      try clear hfz90_1
                      try clear p2
                      obtain ⟨kq, x107_97, rfl, HA, HJ97, BK209, BK210, BK211, HB⟩ := hcut
                      cases kq with
                      | zero => exact absurd HA.out (by simp [pascalineref10_Two.j5])
                      | succ kj97 =>
                        have H := HA.out
                        clear HA
                        simp only [pascalineref10_Two.j5] at H
                        by_cases c142 : x107_97 = true
                        · subst c142
                          have H1 : (some (0, 0, 91)) = some (r1, r2, r3) := by rw [if_pos rfl] at H; exact H
                          clear H
                          have H := H1
                          clear H1
                          simp only [Option.some.injEq, Prod.mk.injEq] at H
                          obtain ⟨rfl, rfl, rfl⟩ := H
                          have hnb143 := NB211_209.out
                          have hnc143 := NB209_211.out
                          have hnb144 := NB211_210.out
                          have hnc144 := NB210_211.out
                          have hcz145_0 : wc.cell? ⟨gb211, 0, none⟩ = some (.int .i64 0) := (blk_cell BK211.out 0).trans rfl
                          have hcz145_1 : wc.cell? ⟨gb211, 1, none⟩ = some (.int .i32 0) := (blk_cell BK211.out 1).trans rfl
                          have hfz145_0 := blk_frozen BK211.out 0
                          have hfz145_1 := blk_frozen BK211.out 1
                          go_wp2
                          refine bodyPost_ret (results_ct rfl _ _ gb211 28 #[.int .i64 0, .int .i32 0] (0, 0) _ rfl (by (with_reducible repeat (first | refine blk_drewN ?_ _ | refine blk_drew ?_ | refine blk_alloc ?_ _)); refine blk_put (cs := #[.int .i64 0, .int .i32 0]) ?_ 1 _ rfl; (with_reducible repeat (first | refine blk_drewN ?_ _ | refine blk_drew ?_ | refine blk_alloc ?_ _)); refine blk_put (cs := #[.int .i64 0, .int .i32 0]) ?_ 0 _ rfl; (with_reducible repeat (first | refine blk_drewN ?_ _ | refine blk_drew ?_ | refine blk_alloc ?_ _)); exact BK211.out) Try.underlying28 rfl (by kernel_rfl)) rfl ?_
                          exact ⟨by first | rfl | (simp [errW_none, errW_some] <;> rfl) | (simp [*, errW_none, errW_some] <;> rfl), by repeat (first | (with_reducible first | exact HB.out | apply below_alloc | apply pw_below_drewN | apply below_drew1 | refine below_set ?_ GE209.out | refine below_set ?_ GE210.out | refine below_set ?_ GE211.out) | exact HB.out)⟩
                        · replace c142 := Bool.eq_false_iff.mpr c142
                          subst c142
                          have H1 : ((pascalineref10_Compare.f a0 a1_1 a2_1).bind fun t223 => ((pascalineref10_Truth.f t223).bind fun bt224 => (some (bt224.1, bt224.2, 0)))) = some (r1, r2, r3) := by rw [if_neg (show ¬ (false = true) by decide)] at H; exact H
                          clear H
                          have H := H1
                          clear H1
                          replace H := Option.bind_eq_some_iff.mp H
                          obtain ⟨t223, A1460, H⟩ := H
                          replace H : ((pascalineref10_Truth.f t223).bind fun bt224 => (some (bt224.1, bt224.2, 0))) = some (r1, r2, r3) := H
                          have A146 := Aside0.mk A1460
                          clear A1460
                          replace H := Option.bind_eq_some_iff.mp H
                          obtain ⟨⟨t224, t225⟩, A1470, H⟩ := H
                          replace H : (some (t224, t225, 0)) = some (r1, r2, r3) := H
                          have A147 := Aside0.mk A1470
                          clear A1470
                          simp only [Option.some.injEq, Prod.mk.injEq] at H
                          obtain ⟨rfl, rfl, rfl⟩ := H
                          have hnb148 := NB209_210.out
                          have hnc148 := NB210_209.out
                          have hnb149 := NB209_211.out
                          have hnc149 := NB211_209.out
                          have hcz150_0 : wc.cell? ⟨gb209, 0, none⟩ = some (.int .i64 a1_0) := (blk_cell BK209.out 0).trans rfl
                          have hcz150_1 : wc.cell? ⟨gb209, 1, none⟩ = some (.int .i32 a1_1) := (blk_cell BK209.out 1).trans rfl
                          have hfz150_0 := blk_frozen BK209.out 0
                          have hfz150_1 := blk_frozen BK209.out 1
                          have hnb151 := NB210_211.out
                          have hnc151 := NB211_210.out
                          have hcz152_0 : wc.cell? ⟨gb210, 0, none⟩ = some (.int .i64 a2_0) := (blk_cell BK210.out 0).trans rfl
                          have hcz152_1 : wc.cell? ⟨gb210, 1, none⟩ = some (.int .i32 a2_1) := (blk_cell BK210.out 1).trans rfl
                          have hfz152_0 := blk_frozen BK210.out 0
                          have hfz152_1 := blk_frozen BK210.out 1
                          go_wp2_with (first | ((with_reducible refine gate_callee (f := 23) rfl ?_); refine goesL_ (some 114) rfl rfl Try.func23 (by kernel_rfl) rfl #[.string a0, .int .i32 a1_1, .int .i32 a2_1] rfl (by (try simp only [List.map_toArray, List.map_cons, List.map_nil]); first | done | rfl | (simp only [List.length_drop, List.length_take]; rfl)) ?_; (with_reducible refine (pascalineref10_Compare.calls a0 a1_1 a2_1 t223 _ A146.out).mono ?_); rintro e w' ⟨rfl, ⟨nd, rfl⟩⟩; refine ⟨_, rfl, ?_⟩; (try (rw [drewN_self wc]; generalize hq_ : World.drewN wc _ = wc; have n0_ : Aside0 (wc.heap[gb209]? = some (.cells #[.int .i64 a1_0, .int .i32 a1_1] 28 (0, 0))) := ⟨by rw [← hq_]; exact (by (with_reducible repeat (first | refine blk_drewN ?_ _ | refine blk_drew ?_ | refine blk_alloc ?_ _)); exact BK209.out)⟩; have n1_ : Aside0 (wc.heap[gb210]? = some (.cells #[.int .i64 a2_0, .int .i32 a2_1] 28 (0, 0))) := ⟨by rw [← hq_]; exact (by (with_reducible repeat (first | refine blk_drewN ?_ _ | refine blk_drew ?_ | refine blk_alloc ?_ _)); exact BK210.out)⟩; have n2_ : Aside0 (wc.heap[gb211]? = some (.cells #[.int .i64 0, .int .i32 0] 28 (0, 0))) := ⟨by rw [← hq_]; exact (by (with_reducible repeat (first | refine blk_drewN ?_ _ | refine blk_drew ?_ | refine blk_alloc ?_ _)); exact BK211.out)⟩; have n3_ : Aside0 (Below w.heap.size w wc) := ⟨by rw [← hq_]; exact (by repeat (first | (with_reducible first | exact HB.out | apply below_alloc | apply pw_below_drewN | apply below_drew1 | refine below_set ?_ GE209.out | refine below_set ?_ GE210.out | refine below_set ?_ GE211.out) | exact HB.out))⟩; clear BK209 BK210 BK211 HB hq_; have BK209 := n0_; have BK210 := n1_; have BK211 := n2_; have HB := n3_; clear n0_ n1_ n2_ n3_))) | ((with_reducible refine gate_callee (f := 22) rfl ?_); refine goesL_ (some 115) rfl rfl Try.func22 (by kernel_rfl) rfl #[.bool t223] rfl (by (try simp only [List.map_toArray, List.map_cons, List.map_nil]); first | done | rfl | (simp only [List.length_drop, List.length_take]; rfl)) ?_; (with_reducible refine (pascalineref10_Truth.calls t223 t224 t225 _ A147.out).mono ?_); rintro e w153 ⟨rfl, hb⟩; refine ⟨_, rfl, ?_⟩; have n0_ := Aside0.mk (blk_below (g := gb209) (o := .cells #[.int .i64 a1_0, .int .i32 a1_1] 28 (0, 0)) (by (with_reducible repeat (first | refine blk_drewN ?_ _ | refine blk_drew ?_ | refine blk_alloc ?_ _)); exact BK209.out) hb); have n1_ := Aside0.mk (blk_below (g := gb210) (o := .cells #[.int .i64 a2_0, .int .i32 a2_1] 28 (0, 0)) (by (with_reducible repeat (first | refine blk_drewN ?_ _ | refine blk_drew ?_ | refine blk_alloc ?_ _)); exact BK210.out) hb); have n2_ := Aside0.mk (blk_below (g := gb211) (o := .cells #[.int .i64 0, .int .i32 0] 28 (0, 0)) (by (with_reducible repeat (first | refine blk_drewN ?_ _ | refine blk_drew ?_ | refine blk_alloc ?_ _)); exact BK211.out) hb); have n3_ := Aside0.mk (below_step (by repeat (first | (with_reducible first | exact HB.out | apply below_alloc | apply pw_below_drewN | apply below_drew1 | refine below_set ?_ GE209.out | refine below_set ?_ GE210.out | refine below_set ?_ GE211.out) | exact HB.out)) hb); clear BK209; clear BK210; clear BK211; clear HB; have BK209 := n0_; have BK210 := n1_; have BK211 := n2_; have HB := n3_; clear n0_ n1_ n2_ n3_; (try clear hb); (try clear hb2); (try clear hk); (try clear hi); have hcz154_0 : w153.cell? ⟨gb211, 0, none⟩ = some (.int .i64 0) := (blk_cell BK211.out 0).trans rfl; have hcz154_1 : w153.cell? ⟨gb211, 1, none⟩ = some (.int .i32 0) := (blk_cell BK211.out 1).trans rfl; have hfz154_0 := blk_frozen BK211.out 0; have hfz154_1 := blk_frozen BK211.out 1))
                          refine bodyPost_ret (results_ct rfl _ _ gb211 28 #[.int .i64 t224, .int .i32 t225] (0, 0) _ rfl (by (with_reducible repeat (first | refine blk_drewN ?_ _ | refine blk_drew ?_ | refine blk_alloc ?_ _)); refine blk_put (cs := #[.int .i64 t224, .int .i32 0]) ?_ 1 _ rfl; (with_reducible repeat (first | refine blk_drewN ?_ _ | refine blk_drew ?_ | refine blk_alloc ?_ _)); refine blk_put (cs := #[.int .i64 0, .int .i32 0]) ?_ 0 _ rfl; (with_reducible repeat (first | refine blk_drewN ?_ _ | refine blk_drew ?_ | refine blk_alloc ?_ _)); exact BK211.out) Try.underlying28 rfl (by kernel_rfl)) rfl ?_
                          exact ⟨by first | rfl | (simp [errW_none, errW_some] <;> rfl) | (simp [*, errW_none, errW_some] <;> rfl), by repeat (first | (with_reducible first | exact HB.out | apply below_alloc | apply pw_below_drewN | apply below_drew1 | refine below_set ?_ GE209.out | refine below_set ?_ GE210.out | refine below_set ?_ GE211.out) | exact HB.out)⟩
                  · replace c97 := Bool.eq_false_iff.mpr c97
                    subst c97
                    have H1 : (some (0, 0, 110)) = some (r1, r2, r3) := by rw [if_neg (show ¬ (false = true) by decide)] at H; exact H
                    clear H
                    have H := H1
                    clear H1
                    simp only [Option.some.injEq, Prod.mk.injEq] at H
                    obtain ⟨rfl, rfl, rfl⟩ := H
                    have hnb155 := NB211_209.out
                    have hnc155 := NB209_211.out
                    have hnb156 := NB211_210.out
                    have hnc156 := NB210_211.out
                    have hcz157_0 : wc.cell? ⟨gb211, 0, none⟩ = some (.int .i64 0) := (blk_cell BK211.out 0).trans rfl
                    have hcz157_1 : wc.cell? ⟨gb211, 1, none⟩ = some (.int .i32 0) := (blk_cell BK211.out 1).trans rfl
                    have hfz157_0 := blk_frozen BK211.out 0
                    have hfz157_1 := blk_frozen BK211.out 1
                    go_wp2
                    refine bodyPost_ret (results_ct rfl _ _ gb211 28 #[.int .i64 0, .int .i32 0] (0, 0) _ rfl (by (with_reducible repeat (first | refine blk_drewN ?_ _ | refine blk_drew ?_ | refine blk_alloc ?_ _)); refine blk_put (cs := #[.int .i64 0, .int .i32 0]) ?_ 1 _ rfl; (with_reducible repeat (first | refine blk_drewN ?_ _ | refine blk_drew ?_ | refine blk_alloc ?_ _)); refine blk_put (cs := #[.int .i64 0, .int .i32 0]) ?_ 0 _ rfl; (with_reducible repeat (first | refine blk_drewN ?_ _ | refine blk_drew ?_ | refine blk_alloc ?_ _)); exact BK211.out) Try.underlying28 rfl (by kernel_rfl)) rfl ?_
                    exact ⟨by first | rfl | (simp [errW_none, errW_some] <;> rfl) | (simp [*, errW_none, errW_some] <;> rfl), by repeat (first | (with_reducible first | exact HB.out | apply below_alloc | apply pw_below_drewN | apply below_drew1 | refine below_set ?_ GE209.out | refine below_set ?_ GE210.out | refine below_set ?_ GE211.out) | exact HB.out)⟩

end Go.Proofs.Yteaaicpmhdafgaa.P

-- Written by a program of this session (wip/tools/hp.py) out of the translation.
import Derived.Test.YtfagpgpeiomnpaaPx0
import Derived.Test.YtfagpgpeiomnpaaPx21
import Derived.Test.YtfagpgpeiomnpaaPx22
import Derived.Test.YtfagpgpeiomnpaaPx27
namespace Go.Proofs.Ytfagpgpeiomnpaa.P
open Go.RowKit Go.Proofs.YtfagpgpeiomnpaaW.PrintWords Go.Proofs.YtfagpgpeiomnpaaW.PrintLast Go.Proofs.YtfagpgpeiomnpaaW.PrintMore
attribute [local go_sem] max2_int min2_int max_two min_two max_three min_three max_four min_four   -- for this text's walks alone
set_option linter.unusedVariables false
set_option linter.unusedSimpArgs false

/-! ### pascalineref02_Decode: function 23 -/
mutual
def pascalineref02_Decode.j0 : Nat → Int → Int → Bool → Bool → Int → Int → Int → Int → Int → Option (Int × Int × Int × Int × Int × Int)
 | 0, _, _, _, _, _, _, _, _, _ => none
 | k + 1, x0, x5, x7, x8, x200000, x200001, x200002, x200003, x200004 => if x7 = true then (pascalineref02_Decode.j1 k x0 x5 x8 x200000 x200001 ((Int.tdiv x0 65536) % 16) x200003 x200004) else (pascalineref02_Decode.j1 k x0 x5 x8 x200000 x200001 x200002 x200003 x200004)
def pascalineref02_Decode.j1 : Nat → Int → Int → Bool → Int → Int → Int → Int → Int → Option (Int × Int × Int × Int × Int × Int)
 | 0, _, _, _, _, _, _, _, _ => none
 | k + 1, x0, x5, x8, x200000, x200001, x200002, x200003, x200004 => if x8 = true then (pascalineref02_Decode.j2 k x0 x5 x200000 x200001 x200002 (wrap64 (Int.tmod x0 16)) x200004) else (pascalineref02_Decode.j2 k x0 x5 x200000 x200001 x200002 x200003 x200004)
def pascalineref02_Decode.j2 : Nat → Int → Int → Int → Int → Int → Int → Int → Option (Int × Int × Int × Int × Int × Int)
 | 0, _, _, _, _, _, _, _ => none
 | k + 1, x0, x5, x200000, x200001, x200002, x200003, x200004 => if x5 = 1 then (pascalineref02_Decode.j3 k x0 x5 (x5 == 1) x200000 x200001 x200002 x200003 x200004) else (pascalineref02_Decode.j3 k x0 x5 (x5 == 3) x200000 x200001 x200002 x200003 x200004)
def pascalineref02_Decode.j3 : Nat → Int → Int → Bool → Int → Int → Int → Int → Int → Option (Int × Int × Int × Int × Int × Int)
 | 0, _, _, _, _, _, _, _, _ => none
 | k + 1, x0, x41, x42, x200000, x200001, x200002, x200003, x200004 => if x42 = true then ((pascalineref01_Sext.f k x0 16).bind fun t204 => ((pascalineref02_Encode.f k x200000 x200001 x200002 x200003 (wrap64 (t204))).bind fun bt205 => (if bt205.2 = 0 then (if bt205.1 = x0 then (some (x200000, x200001, x200002, x200003, wrap64 (t204), 0)) else (some (0, 0, 0, 0, 0, 21))) else (some (0, 0, 0, 0, 0, 21))))) else (if x41 = 2 then (pascalineref02_Decode.j4 k x0 x41 (x41 == 2) x200000 x200001 x200002 x200003 x200004) else (if x41 = 4 then (pascalineref02_Decode.j4 k x0 x41 (x41 == 4) x200000 x200001 x200002 x200003 x200004) else (pascalineref02_Decode.j4 k x0 x41 (x41 == 8) x200000 x200001 x200002 x200003 x200004)))
def pascalineref02_Decode.j4 : Nat → Int → Int → Bool → Int → Int → Int → Int → Int → Option (Int × Int × Int × Int × Int × Int)
 | 0, _, _, _, _, _, _, _, _ => none
 | k + 1, x0, x41, x49, x200000, x200001, x200002, x200003, x200004 => if x49 = true then ((pascalineref02_Encode.f k x200000 x200001 x200002 x200003 (wrap64 (Int.tmod x0 65536))).bind fun bt207 => (if bt207.2 = 0 then (if bt207.1 = x0 then (some (x200000, x200001, x200002, x200003, wrap64 (Int.tmod x0 65536), 0)) else (some (0, 0, 0, 0, 0, 21))) else (some (0, 0, 0, 0, 0, 21)))) else (if x41 = 7 then ((pascalineref01_Sext.f k x0 24).bind fun t209 => ((pascalineref02_Encode.f k x200000 x200001 x200002 x200003 (wrap64 (t209))).bind fun bt210 => (if bt210.2 = 0 then (if bt210.1 = x0 then (some (x200000, x200001, x200002, x200003, wrap64 (t209), 0)) else (some (0, 0, 0, 0, 0, 21))) else (some (0, 0, 0, 0, 0, 21))))) else ((pascalineref02_Encode.f k x200000 x200001 x200002 x200003 x200004).bind fun bt212 => (if bt212.2 = 0 then (if bt212.1 = x0 then (some (x200000, x200001, x200002, x200003, x200004, 0)) else (some (0, 0, 0, 0, 0, 21))) else (some (0, 0, 0, 0, 0, 21)))))
end
def pascalineref02_Decode.f (k : Nat) (a0 : Int) : Option (Int × Int × Int × Int × Int × Int) := (pascalineref02_Shape.f k ((Int.tdiv a0 16777216) % 4294967296)).bind fun t200 => ((pascalineref02_has.f t200).bind fun bt201 => (if bt201.1 = true then (pascalineref02_Decode.j0 k a0 t200 bt201.2.1 bt201.2.2 ((Int.tdiv a0 16777216) % 4294967296) ((Int.tdiv a0 1048576) % 16) 0 0 0) else (pascalineref02_Decode.j0 k a0 t200 bt201.2.1 bt201.2.2 ((Int.tdiv a0 16777216) % 4294967296) 0 0 0 0)))
theorem pascalineref02_Decode.mono_l : ∀ k, (∀ y0 y1 y2 y3 y4 y5 y6 y7 y8, LeO (pascalineref02_Decode.j0 k y0 y1 y2 y3 y4 y5 y6 y7 y8) (pascalineref02_Decode.j0 (k + 1) y0 y1 y2 y3 y4 y5 y6 y7 y8)) ∧ (∀ y0 y1 y2 y3 y4 y5 y6 y7, LeO (pascalineref02_Decode.j1 k y0 y1 y2 y3 y4 y5 y6 y7) (pascalineref02_Decode.j1 (k + 1) y0 y1 y2 y3 y4 y5 y6 y7)) ∧ (∀ y0 y1 y2 y3 y4 y5 y6, LeO (pascalineref02_Decode.j2 k y0 y1 y2 y3 y4 y5 y6) (pascalineref02_Decode.j2 (k + 1) y0 y1 y2 y3 y4 y5 y6)) ∧ (∀ y0 y1 y2 y3 y4 y5 y6 y7, LeO (pascalineref02_Decode.j3 k y0 y1 y2 y3 y4 y5 y6 y7) (pascalineref02_Decode.j3 (k + 1) y0 y1 y2 y3 y4 y5 y6 y7)) ∧ (∀ y0 y1 y2 y3 y4 y5 y6 y7, LeO (pascalineref02_Decode.j4 k y0 y1 y2 y3 y4 y5 y6 y7) (pascalineref02_Decode.j4 (k + 1) y0 y1 y2 y3 y4 y5 y6 y7))
 | 0 => ⟨fun _ _ _ _ _ _ _ _ _ r h => by simp [pascalineref02_Decode.j0] at h, fun _ _ _ _ _ _ _ _ r h => by simp [pascalineref02_Decode.j1] at h, fun _ _ _ _ _ _ _ r h => by simp [pascalineref02_Decode.j2] at h, fun _ _ _ _ _ _ _ _ r h => by simp [pascalineref02_Decode.j3] at h, fun _ _ _ _ _ _ _ _ r h => by simp [pascalineref02_Decode.j4] at h⟩
 | k + 1 => by
  obtain ⟨ih0, ih1, ih2, ih3, ih4⟩ := pascalineref02_Decode.mono_l k
  refine ⟨?_, ?_, ?_, ?_, ?_⟩
  ·
   intro y0 y1 y2 y3 y4 y5 y6 y7 y8
   unfold pascalineref02_Decode.j0
   repeat' first
   | (with_reducible exact ih0 _ _ _ _ _ _ _ _ _)
   | (with_reducible exact ih1 _ _ _ _ _ _ _ _)
   | (with_reducible exact ih2 _ _ _ _ _ _ _)
   | (with_reducible exact ih3 _ _ _ _ _ _ _ _)
   | (with_reducible exact ih4 _ _ _ _ _ _ _ _)
   | (with_reducible exact pascalineref01_Sext.mono _ _ _)
   | (with_reducible exact pascalineref02_Encode.mono _ _ _ _ _ _)
   | (with_reducible exact pascalineref02_Shape.mono _ _)
   | (with_reducible exact LeO.refl _)
   | (with_reducible exact LeO.none _)
   | (with_reducible refine LeO.ite ?_ ?_)
   | (with_reducible refine LeO.bind ?_ (fun _ => ?_))
   | exact ih0 _ _ _ _ _ _ _ _ _
   | exact ih1 _ _ _ _ _ _ _ _
   | exact ih2 _ _ _ _ _ _ _
   | exact ih3 _ _ _ _ _ _ _ _
   | exact ih4 _ _ _ _ _ _ _ _
   | exact pascalineref01_Sext.mono _ _ _
   | exact pascalineref02_Encode.mono _ _ _ _ _ _
   | exact pascalineref02_Shape.mono _ _
   | exact LeO.none _
   | refine LeO.ite ?_ ?_
   | refine LeO.bind ?_ (fun _ => ?_)
  ·
   intro y0 y1 y2 y3 y4 y5 y6 y7
   unfold pascalineref02_Decode.j1
   repeat' first
   | (with_reducible exact ih0 _ _ _ _ _ _ _ _ _)
   | (with_reducible exact ih1 _ _ _ _ _ _ _ _)
   | (with_reducible exact ih2 _ _ _ _ _ _ _)
   | (with_reducible exact ih3 _ _ _ _ _ _ _ _)
   | (with_reducible exact ih4 _ _ _ _ _ _ _ _)
   | (with_reducible exact pascalineref01_Sext.mono _ _ _)
   | (with_reducible exact pascalineref02_Encode.mono _ _ _ _ _ _)
   | (with_reducible exact pascalineref02_Shape.mono _ _)
   | (with_reducible exact LeO.refl _)
   | (with_reducible exact LeO.none _)
   | (with_reducible refine LeO.ite ?_ ?_)
   | (with_reducible refine LeO.bind ?_ (fun _ => ?_))
   | exact ih0 _ _ _ _ _ _ _ _ _
   | exact ih1 _ _ _ _ _ _ _ _
   | exact ih2 _ _ _ _ _ _ _
   | exact ih3 _ _ _ _ _ _ _ _
   | exact ih4 _ _ _ _ _ _ _ _
   | exact pascalineref01_Sext.mono _ _ _
   | exact pascalineref02_Encode.mono _ _ _ _ _ _
   | exact pascalineref02_Shape.mono _ _
   | exact LeO.none _
   | refine LeO.ite ?_ ?_
   | refine LeO.bind ?_ (fun _ => ?_)
  ·
   intro y0 y1 y2 y3 y4 y5 y6
   unfold pascalineref02_Decode.j2
   repeat' first
   | (with_reducible exact ih0 _ _ _ _ _ _ _ _ _)
   | (with_reducible exact ih1 _ _ _ _ _ _ _ _)
   | (with_reducible exact ih2 _ _ _ _ _ _ _)
   | (with_reducible exact ih3 _ _ _ _ _ _ _ _)
   | (with_reducible exact ih4 _ _ _ _ _ _ _ _)
   | (with_reducible exact pascalineref01_Sext.mono _ _ _)
   | (with_reducible exact pascalineref02_Encode.mono _ _ _ _ _ _)
   | (with_reducible exact pascalineref02_Shape.mono _ _)
   | (with_reducible exact LeO.refl _)
   | (with_reducible exact LeO.none _)
   | (with_reducible refine LeO.ite ?_ ?_)
   | (with_reducible refine LeO.bind ?_ (fun _ => ?_))
   | exact ih0 _ _ _ _ _ _ _ _ _
   | exact ih1 _ _ _ _ _ _ _ _
   | exact ih2 _ _ _ _ _ _ _
   | exact ih3 _ _ _ _ _ _ _ _
   | exact ih4 _ _ _ _ _ _ _ _
   | exact pascalineref01_Sext.mono _ _ _
   | exact pascalineref02_Encode.mono _ _ _ _ _ _
   | exact pascalineref02_Shape.mono _ _
   | exact LeO.none _
   | refine LeO.ite ?_ ?_
   | refine LeO.bind ?_ (fun _ => ?_)
  ·
   intro y0 y1 y2 y3 y4 y5 y6 y7
   unfold pascalineref02_Decode.j3
   repeat' first
   | (with_reducible exact ih0 _ _ _ _ _ _ _ _ _)
   | (with_reducible exact ih1 _ _ _ _ _ _ _ _)
   | (with_reducible exact ih2 _ _ _ _ _ _ _)
   | (with_reducible exact ih3 _ _ _ _ _ _ _ _)
   | (with_reducible exact ih4 _ _ _ _ _ _ _ _)
   | (with_reducible exact pascalineref01_Sext.mono _ _ _)
   | (with_reducible exact pascalineref02_Encode.mono _ _ _ _ _ _)
   | (with_reducible exact pascalineref02_Shape.mono _ _)
   | (with_reducible exact LeO.refl _)
   | (with_reducible exact LeO.none _)
   | (with_reducible refine LeO.ite ?_ ?_)
   | (with_reducible refine LeO.bind ?_ (fun _ => ?_))
   | exact ih0 _ _ _ _ _ _ _ _ _
   | exact ih1 _ _ _ _ _ _ _ _
   | exact ih2 _ _ _ _ _ _ _
   | exact ih3 _ _ _ _ _ _ _ _
   | exact ih4 _ _ _ _ _ _ _ _
   | exact pascalineref01_Sext.mono _ _ _
   | exact pascalineref02_Encode.mono _ _ _ _ _ _
   | exact pascalineref02_Shape.mono _ _
   | exact LeO.none _
   | refine LeO.ite ?_ ?_
   | refine LeO.bind ?_ (fun _ => ?_)
  ·
   intro y0 y1 y2 y3 y4 y5 y6 y7
   unfold pascalineref02_Decode.j4
   repeat' first
   | (with_reducible exact ih0 _ _ _ _ _ _ _ _ _)
   | (with_reducible exact ih1 _ _ _ _ _ _ _ _)
   | (with_reducible exact ih2 _ _ _ _ _ _ _)
   | (with_reducible exact ih3 _ _ _ _ _ _ _ _)
   | (with_reducible exact ih4 _ _ _ _ _ _ _ _)
   | (with_reducible exact pascalineref01_Sext.mono _ _ _)
   | (with_reducible exact pascalineref02_Encode.mono _ _ _ _ _ _)
   | (with_reducible exact pascalineref02_Shape.mono _ _)
   | (with_reducible exact LeO.refl _)
   | (with_reducible exact LeO.none _)
   | (with_reducible refine LeO.ite ?_ ?_)
   | (with_reducible refine LeO.bind ?_ (fun _ => ?_))
   | exact ih0 _ _ _ _ _ _ _ _ _
   | exact ih1 _ _ _ _ _ _ _ _
   | exact ih2 _ _ _ _ _ _ _
   | exact ih3 _ _ _ _ _ _ _ _
   | exact ih4 _ _ _ _ _ _ _ _
   | exact pascalineref01_Sext.mono _ _ _
   | exact pascalineref02_Encode.mono _ _ _ _ _ _
   | exact pascalineref02_Shape.mono _ _
   | exact LeO.none _
   | refine LeO.ite ?_ ?_
   | refine LeO.bind ?_ (fun _ => ?_)
theorem pascalineref02_Decode.mono : ∀ a0 k, LeO (pascalineref02_Decode.f k a0) (pascalineref02_Decode.f (k + 1) a0) := by
 intro a0 k
 obtain ⟨ih0, ih1, ih2, ih3, ih4⟩ := pascalineref02_Decode.mono_l k
 unfold pascalineref02_Decode.f
 repeat' first
   | (with_reducible exact ih0 _ _ _ _ _ _ _ _ _)
   | (with_reducible exact ih1 _ _ _ _ _ _ _ _)
   | (with_reducible exact ih2 _ _ _ _ _ _ _)
   | (with_reducible exact ih3 _ _ _ _ _ _ _ _)
   | (with_reducible exact ih4 _ _ _ _ _ _ _ _)
   | (with_reducible exact pascalineref01_Sext.mono _ _ _)
   | (with_reducible exact pascalineref02_Encode.mono _ _ _ _ _ _)
   | (with_reducible exact pascalineref02_Shape.mono _ _)
   | (with_reducible exact LeO.refl _)
   | (with_reducible exact LeO.none _)
   | (with_reducible refine LeO.ite ?_ ?_)
   | (with_reducible refine LeO.bind ?_ (fun _ => ?_))
   | exact ih0 _ _ _ _ _ _ _ _ _
   | exact ih1 _ _ _ _ _ _ _ _
   | exact ih2 _ _ _ _ _ _ _
   | exact ih3 _ _ _ _ _ _ _ _
   | exact ih4 _ _ _ _ _ _ _ _
   | exact pascalineref01_Sext.mono _ _ _
   | exact pascalineref02_Encode.mono _ _ _ _ _ _
   | exact pascalineref02_Shape.mono _ _
   | exact LeO.none _
   | refine LeO.ite ?_ ?_
   | refine LeO.bind ?_ (fun _ => ?_)
set_option maxHeartbeats 8000000 in
set_option maxRecDepth 100000 in
theorem pascalineref02_Decode.calls (k : Nat) (a0 : Int) (r1 : Int) (r2 : Int) (r3 : Int) (r4 : Int) (r5 : Int) (r6 : Int) (w : World) (h : pascalineref02_Decode.f k a0 = some (r1, r2, r3, r4, r5, r6)) :
  Calls Try.prog 23 #[.int .u32 a0] w fun e w' => e = .returned (.tuple #[.agg #[.int .i64 r1, .int .i64 r2, .int .i64 r3, .int .i64 r4, .int .i64 r5], .int .i64 r6]) ∧ Below w.heap.size w w' := by
 have hu54 := Try.underlying54
 have HB := Aside0.mk (Below.refl w.heap.size w)
 have H : ((pascalineref02_Shape.f k ((Int.tdiv a0 16777216) % 4294967296)).bind fun t200 => ((pascalineref02_has.f t200).bind fun bt201 => (if bt201.1 = true then (pascalineref02_Decode.j0 k a0 t200 bt201.2.1 bt201.2.2 ((Int.tdiv a0 16777216) % 4294967296) ((Int.tdiv a0 1048576) % 16) 0 0 0) else (pascalineref02_Decode.j0 k a0 t200 bt201.2.1 bt201.2.2 ((Int.tdiv a0 16777216) % 4294967296) 0 0 0 0)))) = some (r1, r2, r3, r4, r5, r6) := h
 clear h
 replace H := Option.bind_eq_some_iff.mp H
 obtain ⟨t200, A20, H⟩ := H
 replace H : ((pascalineref02_has.f t200).bind fun bt201 => (if bt201.1 = true then (pascalineref02_Decode.j0 k a0 t200 bt201.2.1 bt201.2.2 ((Int.tdiv a0 16777216) % 4294967296) ((Int.tdiv a0 1048576) % 16) 0 0 0) else (pascalineref02_Decode.j0 k a0 t200 bt201.2.1 bt201.2.2 ((Int.tdiv a0 16777216) % 4294967296) 0 0 0 0))) = some (r1, r2, r3, r4, r5, r6) := H
 have A2 := Aside0.mk A20
 clear A20
 replace H := Option.bind_eq_some_iff.mp H
 obtain ⟨⟨t201, t202, t203⟩, A30, H⟩ := H
 replace H : (if t201 = true then (pascalineref02_Decode.j0 k a0 t200 t202 t203 ((Int.tdiv a0 16777216) % 4294967296) ((Int.tdiv a0 1048576) % 16) 0 0 0) else (pascalineref02_Decode.j0 k a0 t200 t202 t203 ((Int.tdiv a0 16777216) % 4294967296) 0 0 0 0)) = some (r1, r2, r3, r4, r5, r6) := H
 have A3 := Aside0.mk A30
 clear A30
 have HC4 := Aside0.mk H
 clear H
 go_enter Try.func23, Try.ntmps23
 go_upto_if 24 with (first | ((with_reducible refine gate_dst (N := 2) rfl ?_); refine box_event ?hg (N := 2) ?hd (cs := #[.int .i64 0, .int .i64 0, .int .i64 0, .int .i64 0, .int .i64 0]) (t := 54) ?hr ?_; (case hd => rfl); (case hg => rfl); (case hr => first | (go_simp; done) | (go_simp; rfl)); intro gb198 hg w5 hbox hb; have n0_ := Aside0.mk (below_step (by repeat (first | (with_reducible first | exact HB.out | apply below_alloc | apply pw_below_drewN | apply below_drew1) | exact HB.out)) hb); have n1_ := Aside0.mk (hbox); have n2_ := Aside0.mk ((by rw [hg]; exact (below_size (by repeat (first | (with_reducible first | exact HB.out | apply below_alloc | apply pw_below_drewN | apply below_drew1) | exact HB.out))) : w.heap.size ≤ gb198)); have n3_ := Aside0.mk ((by rw [hg]; exact (below_size (by repeat (first | (with_reducible first | exact HB.out | apply below_alloc | apply pw_below_drewN | apply below_drew1) | exact HB.out))) : w.heap.size ≤ gb198)); clear HB; have HB := n0_; have BK198 := n1_; have GW198 := n2_; have GE198 := n3_; clear n0_ n1_ n2_ n3_; clear hb hbox hg) | ((with_reducible refine gate_dst (N := 4) rfl ?_); refine box_event ?hg (N := 4) ?hd (cs := #[.int .i64 0, .int .i64 0, .int .i64 0, .int .i64 0, .int .i64 0]) (t := 54) ?hr ?_; (case hd => rfl); (case hg => rfl); (case hr => first | (go_simp; done) | (go_simp; rfl)); intro gb199 hg w6 hbox hb; have n0_ := Aside0.mk (blk_below (g := gb198) (o := .cells #[.int .i64 0, .int .i64 0, .int .i64 0, .int .i64 0, .int .i64 0] 54 (0, 0)) (by (with_reducible repeat (first | refine blk_drewN ?_ _ | refine blk_drew ?_ | refine blk_alloc ?_ _)); exact BK198.out) hb); have n1_ := Aside0.mk (below_step (by repeat (first | (with_reducible first | exact HB.out | apply below_alloc | apply pw_below_drewN | apply below_drew1 | refine below_set ?_ GE198.out) | exact HB.out)) hb); have n2_ := Aside0.mk (hbox); have n3_ := Aside0.mk ((by rw [hg]; exact (below_size (by repeat (first | (with_reducible first | exact HB.out | apply below_alloc | apply pw_below_drewN | apply below_drew1 | refine below_set ?_ GE198.out) | exact HB.out))) : w.heap.size ≤ gb199)); have n4_ := Aside0.mk ((by rw [hg]; exact (below_size (by repeat (first | (with_reducible first | exact HB.out | apply below_alloc | apply pw_below_drewN | apply below_drew1 | refine below_set ?_ GE198.out) | exact HB.out))) : w.heap.size ≤ gb199)); have n5_ := Aside0.mk ((by rw [hg]; exact Nat.ne_of_lt (blk_lt (g := gb198) (o := .cells #[.int .i64 0, .int .i64 0, .int .i64 0, .int .i64 0, .int .i64 0] 54 (0, 0)) (by (with_reducible repeat (first | refine blk_drewN ?_ _ | refine blk_drew ?_ | refine blk_alloc ?_ _)); exact BK198.out)) : gb198 ≠ gb199)); have n6_ := Aside0.mk ((by rw [hg]; exact Nat.ne_of_gt (blk_lt (g := gb198) (o := .cells #[.int .i64 0, .int .i64 0, .int .i64 0, .int .i64 0, .int .i64 0] 54 (0, 0)) (by (with_reducible repeat (first | refine blk_drewN ?_ _ | refine blk_drew ?_ | refine blk_alloc ?_ _)); exact BK198.out)) : gb199 ≠ gb198)); clear BK198; clear HB; have BK198 := n0_; have HB := n1_; have BK199 := n2_; have GW199 := n3_; have GE199 := n4_; have NB198_199 := n5_; have NB199_198 := n6_; clear n0_ n1_ n2_ n3_ n4_ n5_ n6_; clear hb hbox hg; have hnb7 := NB199_198.out; have hnc7 := NB198_199.out; have hcz8_0 : w6.cell? ⟨gb199, 0, none⟩ = some (.int .i64 0) := (blk_cell BK199.out 0).trans rfl; have hcz8_1 : w6.cell? ⟨gb199, 1, none⟩ = some (.int .i64 0) := (blk_cell BK199.out 1).trans rfl; have hcz8_2 : w6.cell? ⟨gb199, 2, none⟩ = some (.int .i64 0) := (blk_cell BK199.out 2).trans rfl; have hcz8_3 : w6.cell? ⟨gb199, 3, none⟩ = some (.int .i64 0) := (blk_cell BK199.out 3).trans rfl; have hcz8_4 : w6.cell? ⟨gb199, 4, none⟩ = some (.int .i64 0) := (blk_cell BK199.out 4).trans rfl; have hfz8_0 := blk_frozen BK199.out 0; have hfz8_1 := blk_frozen BK199.out 1; have hfz8_2 := blk_frozen BK199.out 2; have hfz8_3 := blk_frozen BK199.out 3; have hfz8_4 := blk_frozen BK199.out 4) | ((with_reducible refine gate_callee (f := 42) rfl ?_); refine goesL_ (some 17) rfl rfl Try.func42 (by kernel_rfl) rfl #[.int .i64 ((Int.tdiv a0 16777216) % 4294967296)] rfl (by (try simp only [List.map_toArray, List.map_cons, List.map_nil]); first | done | rfl | (simp only [List.length_drop, List.length_take]; rfl)) ?_; (with_reducible refine (pascalineref02_Shape.calls k ((Int.tdiv a0 16777216) % 4294967296) t200 _ A2.out).mono ?_); rintro e w' ⟨rfl, ⟨nd, rfl⟩⟩; refine ⟨_, rfl, ?_⟩) | ((with_reducible refine gate_callee (f := 43) rfl ?_); refine goesL_ (some 20) rfl rfl Try.func43 (by kernel_rfl) rfl #[.int .i64 t200] rfl (by (try simp only [List.map_toArray, List.map_cons, List.map_nil]); first | done | rfl | (simp only [List.length_drop, List.length_take]; rfl)) ?_; (with_reducible refine (pascalineref02_has.calls t200 t201 t202 t203 _ A3.out).mono ?_); rintro e w' ⟨rfl, ⟨nd, rfl⟩⟩; refine ⟨_, rfl, ?_⟩))
 (try simp only [Act.put, List.setIfInBounds_toArray, List.set_cons_zero, List.set_cons_succ])
 go_cut [] (fun wc => ∃ (kq : Nat) (x200001_3 : Int), Aside0 (pascalineref02_Decode.j0 kq a0 t200 t202 t203 ((Int.tdiv a0 16777216) % 4294967296) x200001_3 0 0 0 = some (r1, r2, r3, r4, r5, r6)) ∧ Aside0 (kq ≤ k) ∧ Aside0 (wc.heap[gb198]? = some (.cells #[.int .i64 0, .int .i64 0, .int .i64 0, .int .i64 0, .int .i64 0] 54 (0, 0))) ∧ Aside0 (wc.heap[gb199]? = some (.cells #[.int .i64 ((Int.tdiv a0 16777216) % 4294967296), .int .i64 x200001_3, .int .i64 0, .int .i64 0, .int .i64 0] 54 (0, 0))) ∧ Aside0 (Below w.heap.size w wc))
 case first =>
  have H := HC4.out
  clear HC4
  by_cases c9 : t201 = true
  ·
   subst c9
   have H1 : (pascalineref02_Decode.j0 k a0 t200 t202 t203 ((Int.tdiv a0 16777216) % 4294967296) ((Int.tdiv a0 1048576) % 16) 0 0 0) = some (r1, r2, r3, r4, r5, r6) := by rw [if_pos rfl] at H; exact H
   clear H
   have H := H1
   clear H1
   have H' := Aside0.mk H
   clear H
   have hnb10 := NB199_198.out
   have hnc10 := NB198_199.out
   have hcz11_0 : w6.cell? ⟨gb199, 0, none⟩ = some (.int .i64 0) := (blk_cell BK199.out 0).trans rfl
   have hcz11_1 : w6.cell? ⟨gb199, 1, none⟩ = some (.int .i64 0) := (blk_cell BK199.out 1).trans rfl
   have hcz11_2 : w6.cell? ⟨gb199, 2, none⟩ = some (.int .i64 0) := (blk_cell BK199.out 2).trans rfl
   have hcz11_3 : w6.cell? ⟨gb199, 3, none⟩ = some (.int .i64 0) := (blk_cell BK199.out 3).trans rfl
   have hcz11_4 : w6.cell? ⟨gb199, 4, none⟩ = some (.int .i64 0) := (blk_cell BK199.out 4).trans rfl
   have hfz11_0 := blk_frozen BK199.out 0
   have hfz11_1 := blk_frozen BK199.out 1
   have hfz11_2 := blk_frozen BK199.out 2
   have hfz11_3 := blk_frozen BK199.out 3
   have hfz11_4 := blk_frozen BK199.out 4
   go_wp2
   go_meet
   case rel => exact ⟨_, ((Int.tdiv a0 1048576) % 16), H', ⟨by first | omega | exact Nat.le_refl _⟩, ⟨by (with_reducible repeat (first | refine blk_drewN ?_ _ | refine blk_drew ?_ | refine blk_alloc ?_ _)); refine blk_far ?_ NB198_199.out _; (with_reducible repeat (first | refine blk_drewN ?_ _ | refine blk_drew ?_ | refine blk_alloc ?_ _)); refine blk_far ?_ NB198_199.out _; (with_reducible repeat (first | refine blk_drewN ?_ _ | refine blk_drew ?_ | refine blk_alloc ?_ _)); refine blk_far ?_ NB198_199.out _; (with_reducible repeat (first | refine blk_drewN ?_ _ | refine blk_drew ?_ | refine blk_alloc ?_ _)); refine blk_far ?_ NB198_199.out _; (with_reducible repeat (first | refine blk_drewN ?_ _ | refine blk_drew ?_ | refine blk_alloc ?_ _)); refine blk_far ?_ NB198_199.out _; (with_reducible repeat (first | refine blk_drewN ?_ _ | refine blk_drew ?_ | refine blk_alloc ?_ _)); refine blk_far ?_ NB198_199.out _; (with_reducible repeat (first | refine blk_drewN ?_ _ | refine blk_drew ?_ | refine blk_alloc ?_ _)); exact BK198.out⟩, ⟨by (with_reducible repeat (first | refine blk_drewN ?_ _ | refine blk_drew ?_ | refine blk_alloc ?_ _)); refine blk_put (cs := #[.int .i64 ((Int.tdiv a0 16777216) % 4294967296), .int .i64 0, .int .i64 0, .int .i64 0, .int .i64 0]) ?_ 1 _ rfl; (with_reducible repeat (first | refine blk_drewN ?_ _ | refine blk_drew ?_ | refine blk_alloc ?_ _)); refine blk_put (cs := #[.int .i64 ((Int.tdiv a0 16777216) % 4294967296), .int .i64 0, .int .i64 0, .int .i64 0, .int .i64 0]) ?_ 4 _ rfl; (with_reducible repeat (first | refine blk_drewN ?_ _ | refine blk_drew ?_ | refine blk_alloc ?_ _)); refine blk_put (cs := #[.int .i64 ((Int.tdiv a0 16777216) % 4294967296), .int .i64 0, .int .i64 0, .int .i64 0, .int .i64 0]) ?_ 3 _ rfl; (with_reducible repeat (first | refine blk_drewN ?_ _ | refine blk_drew ?_ | refine blk_alloc ?_ _)); refine blk_put (cs := #[.int .i64 ((Int.tdiv a0 16777216) % 4294967296), .int .i64 0, .int .i64 0, .int .i64 0, .int .i64 0]) ?_ 2 _ rfl; (with_reducible repeat (first | refine blk_drewN ?_ _ | refine blk_drew ?_ | refine blk_alloc ?_ _)); refine blk_put (cs := #[.int .i64 ((Int.tdiv a0 16777216) % 4294967296), .int .i64 0, .int .i64 0, .int .i64 0, .int .i64 0]) ?_ 1 _ rfl; (with_reducible repeat (first | refine blk_drewN ?_ _ | refine blk_drew ?_ | refine blk_alloc ?_ _)); refine blk_put (cs := #[.int .i64 0, .int .i64 0, .int .i64 0, .int .i64 0, .int .i64 0]) ?_ 0 _ rfl; (with_reducible repeat (first | refine blk_drewN ?_ _ | refine blk_drew ?_ | refine blk_alloc ?_ _)); exact BK199.out⟩, ⟨by repeat (first | (with_reducible first | exact HB.out | apply below_alloc | apply pw_below_drewN | apply below_drew1 | refine below_set ?_ GE198.out | refine below_set ?_ GE199.out) | exact HB.out)⟩⟩
  ·
   replace c9 := Bool.eq_false_iff.mpr c9
   subst c9
   have H1 : (pascalineref02_Decode.j0 k a0 t200 t202 t203 ((Int.tdiv a0 16777216) % 4294967296) 0 0 0 0) = some (r1, r2, r3, r4, r5, r6) := by rw [if_neg (show ¬ (false = true) by decide)] at H; exact H
   clear H
   have H := H1
   clear H1
   have H' := Aside0.mk H
   clear H
   go_wp2
   go_meet
   case rel => exact ⟨_, (0), H', ⟨by first | omega | exact Nat.le_refl _⟩, ⟨by (with_reducible repeat (first | refine blk_drewN ?_ _ | refine blk_drew ?_ | refine blk_alloc ?_ _)); refine blk_far ?_ NB198_199.out _; (with_reducible repeat (first | refine blk_drewN ?_ _ | refine blk_drew ?_ | refine blk_alloc ?_ _)); refine blk_far ?_ NB198_199.out _; (with_reducible repeat (first | refine blk_drewN ?_ _ | refine blk_drew ?_ | refine blk_alloc ?_ _)); refine blk_far ?_ NB198_199.out _; (with_reducible repeat (first | refine blk_drewN ?_ _ | refine blk_drew ?_ | refine blk_alloc ?_ _)); refine blk_far ?_ NB198_199.out _; (with_reducible repeat (first | refine blk_drewN ?_ _ | refine blk_drew ?_ | refine blk_alloc ?_ _)); refine blk_far ?_ NB198_199.out _; (with_reducible repeat (first | refine blk_drewN ?_ _ | refine blk_drew ?_ | refine blk_alloc ?_ _)); exact BK198.out⟩, ⟨by (with_reducible repeat (first | refine blk_drewN ?_ _ | refine blk_drew ?_ | refine blk_alloc ?_ _)); refine blk_put (cs := #[.int .i64 ((Int.tdiv a0 16777216) % 4294967296), .int .i64 0, .int .i64 0, .int .i64 0, .int .i64 0]) ?_ 4 _ rfl; (with_reducible repeat (first | refine blk_drewN ?_ _ | refine blk_drew ?_ | refine blk_alloc ?_ _)); refine blk_put (cs := #[.int .i64 ((Int.tdiv a0 16777216) % 4294967296), .int .i64 0, .int .i64 0, .int .i64 0, .int .i64 0]) ?_ 3 _ rfl; (with_reducible repeat (first | refine blk_drewN ?_ _ | refine blk_drew ?_ | refine blk_alloc ?_ _)); refine blk_put (cs := #[.int .i64 ((Int.tdiv a0 16777216) % 4294967296), .int .i64 0, .int .i64 0, .int .i64 0, .int .i64 0]) ?_ 2 _ rfl; (with_reducible repeat (first | refine blk_drewN ?_ _ | refine blk_drew ?_ | refine blk_alloc ?_ _)); refine blk_put (cs := #[.int .i64 ((Int.tdiv a0 16777216) % 4294967296), .int .i64 0, .int .i64 0, .int .i64 0, .int .i64 0]) ?_ 1 _ rfl; (with_reducible repeat (first | refine blk_drewN ?_ _ | refine blk_drew ?_ | refine blk_alloc ?_ _)); refine blk_put (cs := #[.int .i64 0, .int .i64 0, .int .i64 0, .int .i64 0, .int .i64 0]) ?_ 0 _ rfl; (with_reducible repeat (first | refine blk_drewN ?_ _ | refine blk_drew ?_ | refine blk_alloc ?_ _)); exact BK199.out⟩, ⟨by repeat (first | (with_reducible first | exact HB.out | apply below_alloc | apply pw_below_drewN | apply below_drew1 | refine below_set ?_ GE198.out | refine below_set ?_ GE199.out) | exact HB.out)⟩⟩
 case rest =>
  clear HC4
  (try clear c1); (try clear c2); (try clear p2); (try clear c4); (try clear c7); (try clear c9); (try clear c10); (try clear hcz11_0); (try clear hcz11_1); (try clear hcz11_2); (try clear hcz11_3); (try clear hcz11_4); (try clear hcz8_0); (try clear hcz8_1); (try clear hcz8_2); (try clear hcz8_3); (try clear hcz8_4); (try clear hfz11_0); (try clear hfz11_1); (try clear hfz11_2); (try clear hfz11_3); (try clear hfz11_4); (try clear hfz8_0); (try clear hfz8_1); (try clear hfz8_2); (try clear hfz8_3); (try clear hfz8_4)
  obtain ⟨kq, x200001_3, HA, HJ3, BK198, BK199, HB⟩ := hcut
  cases kq with
  | zero => exact absurd HA.out (by simp [pascalineref02_Decode.j0])
  | succ kj3 =>
   have H := HA.out
   clear HA
   simp only [pascalineref02_Decode.j0] at H
   have HC12 := Aside0.mk H
   clear H
   go_upto_if 30 with (fail)
   go_cut [] (fun wc => ∃ (kq : Nat) (x200002_11 : Int), Aside0 (pascalineref02_Decode.j1 kq a0 t200 t203 ((Int.tdiv a0 16777216) % 4294967296) x200001_3 x200002_11 0 0 = some (r1, r2, r3, r4, r5, r6)) ∧ Aside0 (kq ≤ kj3) ∧ Aside0 (wc.heap[gb198]? = some (.cells #[.int .i64 0, .int .i64 0, .int .i64 0, .int .i64 0, .int .i64 0] 54 (0, 0))) ∧ Aside0 (wc.heap[gb199]? = some (.cells #[.int .i64 ((Int.tdiv a0 16777216) % 4294967296), .int .i64 x200001_3, .int .i64 x200002_11, .int .i64 0, .int .i64 0] 54 (0, 0))) ∧ Aside0 (Below w.heap.size w wc))
   case first =>
    have H := HC12.out
    clear HC12
    by_cases c13 : t202 = true
    ·
     subst c13
     have H1 : (pascalineref02_Decode.j1 kj3 a0 t200 t203 ((Int.tdiv a0 16777216) % 4294967296) x200001_3 ((Int.tdiv a0 65536) % 16) 0 0) = some (r1, r2, r3, r4, r5, r6) := by rw [if_pos rfl] at H; exact H
     clear H
     have H := H1
     clear H1
     have H' := Aside0.mk H
     clear H
     have hnb14 := NB199_198.out
     have hnc14 := NB198_199.out
     have hcz15_0 : wc.cell? ⟨gb199, 0, none⟩ = some (.int .i64 ((Int.tdiv a0 16777216) % 4294967296)) := (blk_cell BK199.out 0).trans rfl
     have hcz15_1 : wc.cell? ⟨gb199, 1, none⟩ = some (.int .i64 x200001_3) := (blk_cell BK199.out 1).trans rfl
     have hcz15_2 : wc.cell? ⟨gb199, 2, none⟩ = some (.int .i64 0) := (blk_cell BK199.out 2).trans rfl
     have hcz15_3 : wc.cell? ⟨gb199, 3, none⟩ = some (.int .i64 0) := (blk_cell BK199.out 3).trans rfl
     have hcz15_4 : wc.cell? ⟨gb199, 4, none⟩ = some (.int .i64 0) := (blk_cell BK199.out 4).trans rfl
     have hfz15_0 := blk_frozen BK199.out 0
     have hfz15_1 := blk_frozen BK199.out 1
     have hfz15_2 := blk_frozen BK199.out 2
     have hfz15_3 := blk_frozen BK199.out 3
     have hfz15_4 := blk_frozen BK199.out 4
     go_wp2
     go_meet
     case rel => exact ⟨_, ((Int.tdiv a0 65536) % 16), H', ⟨by have := HJ3.out; first | omega | exact Nat.le_refl _⟩, ⟨by (with_reducible repeat (first | refine blk_drewN ?_ _ | refine blk_drew ?_ | refine blk_alloc ?_ _)); refine blk_far ?_ NB198_199.out _; (with_reducible repeat (first | refine blk_drewN ?_ _ | refine blk_drew ?_ | refine blk_alloc ?_ _)); exact BK198.out⟩, ⟨by (with_reducible repeat (first | refine blk_drewN ?_ _ | refine blk_drew ?_ | refine blk_alloc ?_ _)); refine blk_put (cs := #[.int .i64 ((Int.tdiv a0 16777216) % 4294967296), .int .i64 x200001_3, .int .i64 0, .int .i64 0, .int .i64 0]) ?_ 2 _ rfl; (with_reducible repeat (first | refine blk_drewN ?_ _ | refine blk_drew ?_ | refine blk_alloc ?_ _)); exact BK199.out⟩, ⟨by repeat (first | (with_reducible first | exact HB.out | apply below_alloc | apply pw_below_drewN | apply below_drew1 | refine below_set ?_ GE198.out | refine below_set ?_ GE199.out) | exact HB.out)⟩⟩
    ·
     replace c13 := Bool.eq_false_iff.mpr c13
     subst c13
     have H1 : (pascalineref02_Decode.j1 kj3 a0 t200 t203 ((Int.tdiv a0 16777216) % 4294967296) x200001_3 0 0 0) = some (r1, r2, r3, r4, r5, r6) := by rw [if_neg (show ¬ (false = true) by decide)] at H; exact H
     clear H
     have H := H1
     clear H1
     have H' := Aside0.mk H
     clear H
     go_wp2
     go_meet
     case rel => exact ⟨_, (0), H', ⟨by have := HJ3.out; first | omega | exact Nat.le_refl _⟩, ⟨by (with_reducible repeat (first | refine blk_drewN ?_ _ | refine blk_drew ?_ | refine blk_alloc ?_ _)); exact BK198.out⟩, ⟨by (with_reducible repeat (first | refine blk_drewN ?_ _ | refine blk_drew ?_ | refine blk_alloc ?_ _)); exact BK199.out⟩, ⟨by repeat (first | (with_reducible first | exact HB.out | apply below_alloc | apply pw_below_drewN | apply below_drew1 | refine below_set ?_ GE198.out | refine below_set ?_ GE199.out) | exact HB.out)⟩⟩
   case rest =>
    clear HC12
    (try clear c1); (try clear c2); (try clear p2); (try clear c4); (try clear c7); (try clear c9); (try clear c10); (try clear c13); (try clear c14); (try clear hcz11_0); (try clear hcz11_1); (try clear hcz11_2); (try clear hcz11_3); (try clear hcz11_4); (try clear hcz15_0); (try clear hcz15_1); (try clear hcz15_2); (try clear hcz15_3); (try clear hcz15_4); (try clear hcz8_0); (try clear hcz8_1); (try clear hcz8_2); (try clear hcz8_3); (try clear hcz8_4); (try clear hfz11_0); (try clear hfz11_1); (try clear hfz11_2); (try clear hfz11_3); (try clear hfz11_4); (try clear hfz15_0); (try clear hfz15_1); (try clear hfz15_2); (try clear hfz15_3); (try clear hfz15_4); (try clear hfz8_0); (try clear hfz8_1); (try clear hfz8_2); (try clear hfz8_3); (try clear hfz8_4); (try clear p2)
    obtain ⟨kq, x200002_11, HA, HJ11, BK198, BK199, HB⟩ := hcut
    cases kq with
    | zero => exact absurd HA.out (by simp [pascalineref02_Decode.j1])
    | succ kj11 =>
     have H := HA.out
     clear HA
     simp only [pascalineref02_Decode.j1] at H
     have HC16 := Aside0.mk H
     clear H
     go_upto_if 36 with (fail)
     go_cut [] (fun wc => ∃ (kq : Nat) (x200003_15 : Int), Aside0 (pascalineref02_Decode.j2 kq a0 t200 ((Int.tdiv a0 16777216) % 4294967296) x200001_3 x200002_11 x200003_15 0 = some (r1, r2, r3, r4, r5, r6)) ∧ Aside0 (kq ≤ kj11) ∧ Aside0 (wc.heap[gb198]? = some (.cells #[.int .i64 0, .int .i64 0, .int .i64 0, .int .i64 0, .int .i64 0] 54 (0, 0))) ∧ Aside0 (wc.heap[gb199]? = some (.cells #[.int .i64 ((Int.tdiv a0 16777216) % 4294967296), .int .i64 x200001_3, .int .i64 x200002_11, .int .i64 x200003_15, .int .i64 0] 54 (0, 0))) ∧ Aside0 (Below w.heap.size w wc))
     case first =>
      have H := HC16.out
      clear HC16
      by_cases c17 : t203 = true
      ·
       subst c17
       have H1 : (pascalineref02_Decode.j2 kj11 a0 t200 ((Int.tdiv a0 16777216) % 4294967296) x200001_3 x200002_11 (wrap64 (Int.tmod a0 16)) 0) = some (r1, r2, r3, r4, r5, r6) := by rw [if_pos rfl] at H; exact H
       clear H
       have H := H1
       clear H1
       have H' := Aside0.mk H
       clear H
       have hnb18 := NB199_198.out
       have hnc18 := NB198_199.out
       have hcz19_0 : wc.cell? ⟨gb199, 0, none⟩ = some (.int .i64 ((Int.tdiv a0 16777216) % 4294967296)) := (blk_cell BK199.out 0).trans rfl
       have hcz19_1 : wc.cell? ⟨gb199, 1, none⟩ = some (.int .i64 x200001_3) := (blk_cell BK199.out 1).trans rfl
       have hcz19_2 : wc.cell? ⟨gb199, 2, none⟩ = some (.int .i64 x200002_11) := (blk_cell BK199.out 2).trans rfl
       have hcz19_3 : wc.cell? ⟨gb199, 3, none⟩ = some (.int .i64 0) := (blk_cell BK199.out 3).trans rfl
       have hcz19_4 : wc.cell? ⟨gb199, 4, none⟩ = some (.int .i64 0) := (blk_cell BK199.out 4).trans rfl
       have hfz19_0 := blk_frozen BK199.out 0
       have hfz19_1 := blk_frozen BK199.out 1
       have hfz19_2 := blk_frozen BK199.out 2
       have hfz19_3 := blk_frozen BK199.out 3
       have hfz19_4 := blk_frozen BK199.out 4
       go_wp2
       go_meet
       case rel => exact ⟨_, (wrap64 (Int.tmod a0 16)), H', ⟨by have := HJ3.out; have := HJ11.out; first | omega | exact Nat.le_refl _⟩, ⟨by (with_reducible repeat (first | refine blk_drewN ?_ _ | refine blk_drew ?_ | refine blk_alloc ?_ _)); refine blk_far ?_ NB198_199.out _; (with_reducible repeat (first | refine blk_drewN ?_ _ | refine blk_drew ?_ | refine blk_alloc ?_ _)); exact BK198.out⟩, ⟨by (with_reducible repeat (first | refine blk_drewN ?_ _ | refine blk_drew ?_ | refine blk_alloc ?_ _)); refine blk_put (cs := #[.int .i64 ((Int.tdiv a0 16777216) % 4294967296), .int .i64 x200001_3, .int .i64 x200002_11, .int .i64 0, .int .i64 0]) ?_ 3 _ rfl; (with_reducible repeat (first | refine blk_drewN ?_ _ | refine blk_drew ?_ | refine blk_alloc ?_ _)); exact BK199.out⟩, ⟨by repeat (first | (with_reducible first | exact HB.out | apply below_alloc | apply pw_below_drewN | apply below_drew1 | refine below_set ?_ GE198.out | refine below_set ?_ GE199.out) | exact HB.out)⟩⟩
      ·
       replace c17 := Bool.eq_false_iff.mpr c17
       subst c17
       have H1 : (pascalineref02_Decode.j2 kj11 a0 t200 ((Int.tdiv a0 16777216) % 4294967296) x200001_3 x200002_11 0 0) = some (r1, r2, r3, r4, r5, r6) := by rw [if_neg (show ¬ (false = true) by decide)] at H; exact H
       clear H
       have H := H1
       clear H1
       have H' := Aside0.mk H
       clear H
       go_wp2
       go_meet
       case rel => exact ⟨_, (0), H', ⟨by have := HJ3.out; have := HJ11.out; first | omega | exact Nat.le_refl _⟩, ⟨by (with_reducible repeat (first | refine blk_drewN ?_ _ | refine blk_drew ?_ | refine blk_alloc ?_ _)); exact BK198.out⟩, ⟨by (with_reducible repeat (first | refine blk_drewN ?_ _ | refine blk_drew ?_ | refine blk_alloc ?_ _)); exact BK199.out⟩, ⟨by repeat (first | (with_reducible first | exact HB.out | apply below_alloc | apply pw_below_drewN | apply below_drew1 | refine below_set ?_ GE198.out | refine below_set ?_ GE199.out) | exact HB.out)⟩⟩
     case rest =>
      clear HC16
      (try clear c1); (try clear c2); (try clear p2); (try clear c4); (try clear p6); (try clear c7); (try clear c9); (try clear c10); (try clear c13); (try clear c14); (try clear c17); (try clear c18); (try clear hcz11_0); (try clear hcz11_1); (try clear hcz11_2); (try clear hcz11_3); (try clear hcz11_4); (try clear hcz15_0); (try clear hcz15_1); (try clear hcz15_2); (try clear hcz15_3); (try clear hcz15_4); (try clear hcz19_0); (try clear hcz19_1); (try clear hcz19_2); (try clear hcz19_3); (try clear hcz19_4); (try clear hcz8_0); (try clear hcz8_1); (try clear hcz8_2); (try clear hcz8_3); (try clear hcz8_4); (try clear hfz11_0); (try clear hfz11_1); (try clear hfz11_2); (try clear hfz11_3); (try clear hfz11_4); (try clear hfz15_0); (try clear hfz15_1); (try clear hfz15_2); (try clear hfz15_3); (try clear hfz15_4); (try clear hfz19_0); (try clear hfz19_1); (try clear hfz19_2); (try clear hfz19_3); (try clear hfz19_4); (try clear hfz8_0); (try clear hfz8_1); (try clear hfz8_2); (try clear hfz8_3); (try clear hfz8_4); (try clear p2)
      obtain ⟨kq, x200003_15, HA, HJ15, BK198, BK199, HB⟩ := hcut
      cases kq with
      | zero => exact absurd HA.out (by simp [pascalineref02_Decode.j2])
      | succ kj15 =>
       have H := HA.out
       clear HA
       simp only [pascalineref02_Decode.j2] at H
       have HC20 := Aside0.mk H
       clear H
       go_upto_if 42 with (fail)
       go_cut [42] (fun v42 wc => ∃ (kq : Nat) (x42_19 : Bool), v42 = .bool x42_19 ∧ Aside0 (pascalineref02_Decode.j3 kq a0 t200 x42_19 ((Int.tdiv a0 16777216) % 4294967296) x200001_3 x200002_11 x200003_15 0 = some (r1, r2, r3, r4, r5, r6)) ∧ Aside0 (kq ≤ kj15) ∧ Aside0 (wc.heap[gb198]? = some (.cells #[.int .i64 0, .int .i64 0, .int .i64 0, .int .i64 0, .int .i64 0] 54 (0, 0))) ∧ Aside0 (wc.heap[gb199]? = some (.cells #[.int .i64 ((Int.tdiv a0 16777216) % 4294967296), .int .i64 x200001_3, .int .i64 x200002_11, .int .i64 x200003_15, .int .i64 0] 54 (0, 0))) ∧ Aside0 (Below w.heap.size w wc))
       case first =>
        have H := HC20.out
        clear HC20
        by_cases c21 : t200 = 1
        ·
         rw [if_pos c21] at H
         have c21b0 : (t200 == 1) = true := beq_iff_eq.mpr c21
         have c21b1 : (t200 != 1) = false := bne_eq_false_iff_eq.mpr c21
         clear c21
         (first | rw [c21b0] | (simp only [i64_w, i32_w]; rw [c21b0]) | skip)
         have H' := Aside0.mk H
         clear H
         go_wp2
         go_meet
         case rel => exact ⟨_, ((t200 == 1)), (by first | rfl | (simp; done) | (simp [*]; done)), H', ⟨by have := HJ3.out; have := HJ11.out; have := HJ15.out; first | omega | exact Nat.le_refl _⟩, ⟨by (with_reducible repeat (first | refine blk_drewN ?_ _ | refine blk_drew ?_ | refine blk_alloc ?_ _)); exact BK198.out⟩, ⟨by (with_reducible repeat (first | refine blk_drewN ?_ _ | refine blk_drew ?_ | refine blk_alloc ?_ _)); exact BK199.out⟩, ⟨by repeat (first | (with_reducible first | exact HB.out | apply below_alloc | apply pw_below_drewN | apply below_drew1 | refine below_set ?_ GE198.out | refine below_set ?_ GE199.out) | exact HB.out)⟩⟩
        ·
         rw [if_neg c21] at H
         have c21b0 : (t200 == 1) = false := beq_eq_false_iff_ne.mpr c21
         have c21b1 : (t200 != 1) = true := bne_iff_ne.mpr c21
         (first | rw [c21b0] | (simp only [i64_w, i32_w]; rw [c21b0]) | skip)
         have H' := Aside0.mk H
         clear H
         go_wp2
         go_meet
         case rel => exact ⟨_, ((t200 == 3)), (by first | rfl | (simp; done) | (simp [*]; done)), H', ⟨by have := HJ3.out; have := HJ11.out; have := HJ15.out; first | omega | exact Nat.le_refl _⟩, ⟨by (with_reducible repeat (first | refine blk_drewN ?_ _ | refine blk_drew ?_ | refine blk_alloc ?_ _)); exact BK198.out⟩, ⟨by (with_reducible repeat (first | refine blk_drewN ?_ _ | refine blk_drew ?_ | refine blk_alloc ?_ _)); exact BK199.out⟩, ⟨by repeat (first | (with_reducible first | exact HB.out | apply below_alloc | apply pw_below_drewN | apply below_drew1 | refine below_set ?_ GE198.out | refine below_set ?_ GE199.out) | exact HB.out)⟩⟩
       case rest =>
        clear HC20
        (try clear c1); (try clear c2); (try clear p2); (try clear c4); (try clear p6); (try clear c7); (try clear c9); (try clear c10); (try clear c13); (try clear c14); (try clear c17); (try clear c18); (try clear c21); (try clear c21b0); (try clear c21b1); (try clear hcz11_0); (try clear hcz11_1); (try clear hcz11_2); (try clear hcz11_3); (try clear hcz11_4); (try clear hcz15_0); (try clear hcz15_1); (try clear hcz15_2); (try clear hcz15_3); (try clear hcz15_4); (try clear hcz19_0); (try clear hcz19_1); (try clear hcz19_2); (try clear hcz19_3); (try clear hcz19_4); (try clear hcz8_0); (try clear hcz8_1); (try clear hcz8_2); (try clear hcz8_3); (try clear hcz8_4); (try clear hfz11_0); (try clear hfz11_1); (try clear hfz11_2); (try clear hfz11_3); (try clear hfz11_4); (try clear hfz15_0); (try clear hfz15_1); (try clear hfz15_2); (try clear hfz15_3); (try clear hfz15_4); (try clear hfz19_0); (try clear hfz19_1); (try clear hfz19_2); (try clear hfz19_3); (try clear hfz19_4); (try clear hfz8_0); (try clear hfz8_1); (try clear hfz8_2); (try clear hfz8_3); (try clear hfz8_4); (try clear p2); (try clear p6)
        obtain ⟨kq, x42_19, rfl, HA, HJ19, BK198, BK199, HB⟩ := hcut
        cases kq with
        | zero => exact absurd HA.out (by simp [pascalineref02_Decode.j3])
        | succ kj19 =>
         have H := HA.out
         clear HA
         simp only [pascalineref02_Decode.j3] at H
         by_cases c22 : x42_19 = true
         ·
          subst c22
          have H1 : ((pascalineref01_Sext.f kj19 a0 16).bind fun t204 => ((pascalineref02_Encode.f kj19 ((Int.tdiv a0 16777216) % 4294967296) x200001_3 x200002_11 x200003_15 (wrap64 (t204))).bind fun bt205 => (if bt205.2 = 0 then (if bt205.1 = a0 then (some (((Int.tdiv a0 16777216) % 4294967296), x200001_3, x200002_11, x200003_15, wrap64 (t204), 0)) else (some (0, 0, 0, 0, 0, 21))) else (some (0, 0, 0, 0, 0, 21))))) = some (r1, r2, r3, r4, r5, r6) := by rw [if_pos rfl] at H; exact H
          clear H
          have H := H1
          clear H1
          replace H := Option.bind_eq_some_iff.mp H
          obtain ⟨t204, A230, H⟩ := H
          replace H : ((pascalineref02_Encode.f kj19 ((Int.tdiv a0 16777216) % 4294967296) x200001_3 x200002_11 x200003_15 (wrap64 (t204))).bind fun bt205 => (if bt205.2 = 0 then (if bt205.1 = a0 then (some (((Int.tdiv a0 16777216) % 4294967296), x200001_3, x200002_11, x200003_15, wrap64 (t204), 0)) else (some (0, 0, 0, 0, 0, 21))) else (some (0, 0, 0, 0, 0, 21)))) = some (r1, r2, r3, r4, r5, r6) := H
          have A23 := Aside0.mk A230
          clear A230
          replace H := Option.bind_eq_some_iff.mp H
          obtain ⟨⟨t205, t206⟩, A240, H⟩ := H
          replace H : (if t206 = 0 then (if t205 = a0 then (some (((Int.tdiv a0 16777216) % 4294967296), x200001_3, x200002_11, x200003_15, wrap64 (t204), 0)) else (some (0, 0, 0, 0, 0, 21))) else (some (0, 0, 0, 0, 0, 21))) = some (r1, r2, r3, r4, r5, r6) := H
          have A24 := Aside0.mk A240
          clear A240
          by_cases c25 : t206 = 0
          ·
           rw [if_pos c25] at H
           have c25b0 : (t206 == 0) = true := beq_iff_eq.mpr c25
           have c25b1 : (t206 != 0) = false := bne_eq_false_iff_eq.mpr c25
           clear c25
           by_cases c26 : t205 = a0
           ·
            rw [if_pos c26] at H
            have c26b0 : (t205 == a0) = true := beq_iff_eq.mpr c26
            have c26b1 : (t205 != a0) = false := bne_eq_false_iff_eq.mpr c26
            clear c26
            simp only [Option.some.injEq, Prod.mk.injEq] at H
            obtain ⟨rfl, rfl, rfl, rfl, rfl, rfl⟩ := H
            go_wp2_with (first | ((with_reducible refine gate_callee (f := 44) rfl ?_); refine goesL_ (some 46) rfl rfl Try.func44 (by kernel_rfl) rfl #[.int .u32 a0, .int .i64 16] rfl (by (try simp only [List.map_toArray, List.map_cons, List.map_nil]); first | done | rfl | (simp only [List.length_drop, List.length_take]; rfl)) ?_; (with_reducible refine (pascalineref01_Sext.calls kj19 a0 16 t204 _ A23.out).mono ?_); rintro e w27 ⟨rfl, hb⟩; refine ⟨_, rfl, ?_⟩; have n0_ := Aside0.mk (blk_below (g := gb198) (o := .cells #[.int .i64 0, .int .i64 0, .int .i64 0, .int .i64 0, .int .i64 0] 54 (0, 0)) (by (with_reducible repeat (first | refine blk_drewN ?_ _ | refine blk_drew ?_ | refine blk_alloc ?_ _)); exact BK198.out) hb); have n1_ := Aside0.mk (blk_below (g := gb199) (o := .cells #[.int .i64 ((Int.tdiv a0 16777216) % 4294967296), .int .i64 x200001_3, .int .i64 x200002_11, .int .i64 x200003_15, .int .i64 0] 54 (0, 0)) (by (with_reducible repeat (first | refine blk_drewN ?_ _ | refine blk_drew ?_ | refine blk_alloc ?_ _)); exact BK199.out) hb); have n2_ := Aside0.mk (below_step (by repeat (first | (with_reducible first | exact HB.out | apply below_alloc | apply pw_below_drewN | apply below_drew1 | refine below_set ?_ GE198.out | refine below_set ?_ GE199.out) | exact HB.out)) hb); clear BK198; clear BK199; clear HB; have BK198 := n0_; have BK199 := n1_; have HB := n2_; clear n0_ n1_ n2_; (try clear hb); (try clear hb2); (try clear hk); (try clear hi); have hnb28 := NB199_198.out; have hnc28 := NB198_199.out; have hcz29_0 : w27.cell? ⟨gb199, 0, none⟩ = some (.int .i64 ((Int.tdiv a0 16777216) % 4294967296)) := (blk_cell BK199.out 0).trans rfl; have hcz29_1 : w27.cell? ⟨gb199, 1, none⟩ = some (.int .i64 x200001_3) := (blk_cell BK199.out 1).trans rfl; have hcz29_2 : w27.cell? ⟨gb199, 2, none⟩ = some (.int .i64 x200002_11) := (blk_cell BK199.out 2).trans rfl; have hcz29_3 : w27.cell? ⟨gb199, 3, none⟩ = some (.int .i64 x200003_15) := (blk_cell BK199.out 3).trans rfl; have hcz29_4 : w27.cell? ⟨gb199, 4, none⟩ = some (.int .i64 0) := (blk_cell BK199.out 4).trans rfl; have hfz29_0 := blk_frozen BK199.out 0; have hfz29_1 := blk_frozen BK199.out 1; have hfz29_2 := blk_frozen BK199.out 2; have hfz29_3 := blk_frozen BK199.out 3; have hfz29_4 := blk_frozen BK199.out 4) | ((with_reducible refine gate_callee (f := 45) rfl ?_); refine goesL_ (some 65) rfl rfl Try.func45 (by kernel_rfl) rfl #[.agg #[.int .i64 ((Int.tdiv a0 16777216) % 4294967296), .int .i64 x200001_3, .int .i64 x200002_11, .int .i64 x200003_15, .int .i64 (wrap64 (t204))]] rfl (by (try simp only [List.map_toArray, List.map_cons, List.map_nil]); first | done | rfl | (simp only [List.length_drop, List.length_take]; rfl)) ?_; (with_reducible refine (pascalineref02_Encode.calls kj19 ((Int.tdiv a0 16777216) % 4294967296) x200001_3 x200002_11 x200003_15 (wrap64 (t204)) t205 t206 _ A24.out).mono ?_); rintro e w30 ⟨rfl, hb⟩; refine ⟨_, rfl, ?_⟩; have n0_ := Aside0.mk (blk_below (g := gb198) (o := .cells #[.int .i64 0, .int .i64 0, .int .i64 0, .int .i64 0, .int .i64 0] 54 (0, 0)) (by (with_reducible repeat (first | refine blk_drewN ?_ _ | refine blk_drew ?_ | refine blk_alloc ?_ _)); refine blk_far ?_ NB198_199.out _; (with_reducible repeat (first | refine blk_drewN ?_ _ | refine blk_drew ?_ | refine blk_alloc ?_ _)); exact BK198.out) hb); have n1_ := Aside0.mk (blk_below (g := gb199) (o := .cells #[.int .i64 ((Int.tdiv a0 16777216) % 4294967296), .int .i64 x200001_3, .int .i64 x200002_11, .int .i64 x200003_15, .int .i64 (wrap64 (t204))] 54 (0, 0)) (by (with_reducible repeat (first | refine blk_drewN ?_ _ | refine blk_drew ?_ | refine blk_alloc ?_ _)); refine blk_put (cs := #[.int .i64 ((Int.tdiv a0 16777216) % 4294967296), .int .i64 x200001_3, .int .i64 x200002_11, .int .i64 x200003_15, .int .i64 0]) ?_ 4 _ rfl; (with_reducible repeat (first | refine blk_drewN ?_ _ | refine blk_drew ?_ | refine blk_alloc ?_ _)); exact BK199.out) hb); have n2_ := Aside0.mk (below_step (by repeat (first | (with_reducible first | exact HB.out | apply below_alloc | apply pw_below_drewN | apply below_drew1 | refine below_set ?_ GE198.out | refine below_set ?_ GE199.out) | exact HB.out)) hb); clear BK198; clear BK199; clear HB; have BK198 := n0_; have BK199 := n1_; have HB := n2_; clear n0_ n1_ n2_; (try clear hb); (try clear hb2); (try clear hk); (try clear hi); have hcz31_0 : w30.cell? ⟨gb199, 0, none⟩ = some (.int .i64 ((Int.tdiv a0 16777216) % 4294967296)) := (blk_cell BK199.out 0).trans rfl; have hcz31_1 : w30.cell? ⟨gb199, 1, none⟩ = some (.int .i64 x200001_3) := (blk_cell BK199.out 1).trans rfl; have hcz31_2 : w30.cell? ⟨gb199, 2, none⟩ = some (.int .i64 x200002_11) := (blk_cell BK199.out 2).trans rfl; have hcz31_3 : w30.cell? ⟨gb199, 3, none⟩ = some (.int .i64 x200003_15) := (blk_cell BK199.out 3).trans rfl; have hcz31_4 : w30.cell? ⟨gb199, 4, none⟩ = some (.int .i64 (wrap64 (t204))) := (blk_cell BK199.out 4).trans rfl; have hfz31_0 := blk_frozen BK199.out 0; have hfz31_1 := blk_frozen BK199.out 1; have hfz31_2 := blk_frozen BK199.out 2; have hfz31_3 := blk_frozen BK199.out 3; have hfz31_4 := blk_frozen BK199.out 4; have hcz32_0 : w30.cell? ⟨gb198, 0, none⟩ = some (.int .i64 0) := (blk_cell BK198.out 0).trans rfl; have hcz32_1 : w30.cell? ⟨gb198, 1, none⟩ = some (.int .i64 0) := (blk_cell BK198.out 1).trans rfl; have hcz32_2 : w30.cell? ⟨gb198, 2, none⟩ = some (.int .i64 0) := (blk_cell BK198.out 2).trans rfl; have hcz32_3 : w30.cell? ⟨gb198, 3, none⟩ = some (.int .i64 0) := (blk_cell BK198.out 3).trans rfl; have hcz32_4 : w30.cell? ⟨gb198, 4, none⟩ = some (.int .i64 0) := (blk_cell BK198.out 4).trans rfl; have hfz32_0 := blk_frozen BK198.out 0; have hfz32_1 := blk_frozen BK198.out 1; have hfz32_2 := blk_frozen BK198.out 2; have hfz32_3 := blk_frozen BK198.out 3; have hfz32_4 := blk_frozen BK198.out 4))
            refine bodyPost_ret (results_ct rfl _ _ gb198 54 #[.int .i64 ((Int.tdiv a0 16777216) % 4294967296), .int .i64 x200001_3, .int .i64 x200002_11, .int .i64 x200003_15, .int .i64 (wrap64 (t204))] (0, 0) _ rfl (by (with_reducible repeat (first | refine blk_drewN ?_ _ | refine blk_drew ?_ | refine blk_alloc ?_ _)); refine blk_put (cs := #[.int .i64 ((Int.tdiv a0 16777216) % 4294967296), .int .i64 x200001_3, .int .i64 x200002_11, .int .i64 x200003_15, .int .i64 0]) ?_ 4 _ rfl; (with_reducible repeat (first | refine blk_drewN ?_ _ | refine blk_drew ?_ | refine blk_alloc ?_ _)); refine blk_put (cs := #[.int .i64 ((Int.tdiv a0 16777216) % 4294967296), .int .i64 x200001_3, .int .i64 x200002_11, .int .i64 0, .int .i64 0]) ?_ 3 _ rfl; (with_reducible repeat (first | refine blk_drewN ?_ _ | refine blk_drew ?_ | refine blk_alloc ?_ _)); refine blk_put (cs := #[.int .i64 ((Int.tdiv a0 16777216) % 4294967296), .int .i64 x200001_3, .int .i64 0, .int .i64 0, .int .i64 0]) ?_ 2 _ rfl; (with_reducible repeat (first | refine blk_drewN ?_ _ | refine blk_drew ?_ | refine blk_alloc ?_ _)); refine blk_put (cs := #[.int .i64 ((Int.tdiv a0 16777216) % 4294967296), .int .i64 0, .int .i64 0, .int .i64 0, .int .i64 0]) ?_ 1 _ rfl; (with_reducible repeat (first | refine blk_drewN ?_ _ | refine blk_drew ?_ | refine blk_alloc ?_ _)); refine blk_put (cs := #[.int .i64 0, .int .i64 0, .int .i64 0, .int .i64 0, .int .i64 0]) ?_ 0 _ rfl; (with_reducible repeat (first | refine blk_drewN ?_ _ | refine blk_drew ?_ | refine blk_alloc ?_ _)); exact BK198.out) Try.underlying54 rfl (by kernel_rfl)) rfl ?_
            exact ⟨by first | rfl | (simp [errW_none, errW_some] <;> rfl) | (simp [*, errW_none, errW_some] <;> rfl), by repeat (first | (with_reducible first | exact HB.out | apply below_alloc | apply pw_below_drewN | apply below_drew1 | refine below_set ?_ GE198.out | refine below_set ?_ GE199.out) | exact HB.out)⟩
           ·
            rw [if_neg c26] at H
            have c26b0 : (t205 == a0) = false := beq_eq_false_iff_ne.mpr c26
            have c26b1 : (t205 != a0) = true := bne_iff_ne.mpr c26
            simp only [Option.some.injEq, Prod.mk.injEq] at H
            obtain ⟨rfl, rfl, rfl, rfl, rfl, rfl⟩ := H
            go_wp2_with (first | ((with_reducible refine gate_callee (f := 44) rfl ?_); refine goesL_ (some 46) rfl rfl Try.func44 (by kernel_rfl) rfl #[.int .u32 a0, .int .i64 16] rfl (by (try simp only [List.map_toArray, List.map_cons, List.map_nil]); first | done | rfl | (simp only [List.length_drop, List.length_take]; rfl)) ?_; (with_reducible refine (pascalineref01_Sext.calls kj19 a0 16 t204 _ A23.out).mono ?_); rintro e w33 ⟨rfl, hb⟩; refine ⟨_, rfl, ?_⟩; have n0_ := Aside0.mk (blk_below (g := gb198) (o := .cells #[.int .i64 0, .int .i64 0, .int .i64 0, .int .i64 0, .int .i64 0] 54 (0, 0)) (by (with_reducible repeat (first | refine blk_drewN ?_ _ | refine blk_drew ?_ | refine blk_alloc ?_ _)); exact BK198.out) hb); have n1_ := Aside0.mk (blk_below (g := gb199) (o := .cells #[.int .i64 ((Int.tdiv a0 16777216) % 4294967296), .int .i64 x200001_3, .int .i64 x200002_11, .int .i64 x200003_15, .int .i64 0] 54 (0, 0)) (by (with_reducible repeat (first | refine blk_drewN ?_ _ | refine blk_drew ?_ | refine blk_alloc ?_ _)); exact BK199.out) hb); have n2_ := Aside0.mk (below_step (by repeat (first | (with_reducible first | exact HB.out | apply below_alloc | apply pw_below_drewN | apply below_drew1 | refine below_set ?_ GE198.out | refine below_set ?_ GE199.out) | exact HB.out)) hb); clear BK198; clear BK199; clear HB; have BK198 := n0_; have BK199 := n1_; have HB := n2_; clear n0_ n1_ n2_; (try clear hb); (try clear hb2); (try clear hk); (try clear hi); have hnb34 := NB199_198.out; have hnc34 := NB198_199.out; have hcz35_0 : w33.cell? ⟨gb199, 0, none⟩ = some (.int .i64 ((Int.tdiv a0 16777216) % 4294967296)) := (blk_cell BK199.out 0).trans rfl; have hcz35_1 : w33.cell? ⟨gb199, 1, none⟩ = some (.int .i64 x200001_3) := (blk_cell BK199.out 1).trans rfl; have hcz35_2 : w33.cell? ⟨gb199, 2, none⟩ = some (.int .i64 x200002_11) := (blk_cell BK199.out 2).trans rfl; have hcz35_3 : w33.cell? ⟨gb199, 3, none⟩ = some (.int .i64 x200003_15) := (blk_cell BK199.out 3).trans rfl; have hcz35_4 : w33.cell? ⟨gb199, 4, none⟩ = some (.int .i64 0) := (blk_cell BK199.out 4).trans rfl; have hfz35_0 := blk_frozen BK199.out 0; have hfz35_1 := blk_frozen BK199.out 1; have hfz35_2 := blk_frozen BK199.out 2; have hfz35_3 := blk_frozen BK199.out 3; have hfz35_4 := blk_frozen BK199.out 4) | ((with_reducible refine gate_callee (f := 45) rfl ?_); refine goesL_ (some 65) rfl rfl Try.func45 (by kernel_rfl) rfl #[.agg #[.int .i64 ((Int.tdiv a0 16777216) % 4294967296), .int .i64 x200001_3, .int .i64 x200002_11, .int .i64 x200003_15, .int .i64 (wrap64 (t204))]] rfl (by (try simp only [List.map_toArray, List.map_cons, List.map_nil]); first | done | rfl | (simp only [List.length_drop, List.length_take]; rfl)) ?_; (with_reducible refine (pascalineref02_Encode.calls kj19 ((Int.tdiv a0 16777216) % 4294967296) x200001_3 x200002_11 x200003_15 (wrap64 (t204)) t205 t206 _ A24.out).mono ?_); rintro e w36 ⟨rfl, hb⟩; refine ⟨_, rfl, ?_⟩; have n0_ := Aside0.mk (blk_below (g := gb198) (o := .cells #[.int .i64 0, .int .i64 0, .int .i64 0, .int .i64 0, .int .i64 0] 54 (0, 0)) (by (with_reducible repeat (first | refine blk_drewN ?_ _ | refine blk_drew ?_ | refine blk_alloc ?_ _)); refine blk_far ?_ NB198_199.out _; (with_reducible repeat (first | refine blk_drewN ?_ _ | refine blk_drew ?_ | refine blk_alloc ?_ _)); exact BK198.out) hb); have n1_ := Aside0.mk (blk_below (g := gb199) (o := .cells #[.int .i64 ((Int.tdiv a0 16777216) % 4294967296), .int .i64 x200001_3, .int .i64 x200002_11, .int .i64 x200003_15, .int .i64 (wrap64 (t204))] 54 (0, 0)) (by (with_reducible repeat (first | refine blk_drewN ?_ _ | refine blk_drew ?_ | refine blk_alloc ?_ _)); refine blk_put (cs := #[.int .i64 ((Int.tdiv a0 16777216) % 4294967296), .int .i64 x200001_3, .int .i64 x200002_11, .int .i64 x200003_15, .int .i64 0]) ?_ 4 _ rfl; (with_reducible repeat (first | refine blk_drewN ?_ _ | refine blk_drew ?_ | refine blk_alloc ?_ _)); exact BK199.out) hb); have n2_ := Aside0.mk (below_step (by repeat (first | (with_reducible first | exact HB.out | apply below_alloc | apply pw_below_drewN | apply below_drew1 | refine below_set ?_ GE198.out | refine below_set ?_ GE199.out) | exact HB.out)) hb); clear BK198; clear BK199; clear HB; have BK198 := n0_; have BK199 := n1_; have HB := n2_; clear n0_ n1_ n2_; (try clear hb); (try clear hb2); (try clear hk); (try clear hi); have hcz37_0 : w36.cell? ⟨gb198, 0, none⟩ = some (.int .i64 0) := (blk_cell BK198.out 0).trans rfl; have hcz37_1 : w36.cell? ⟨gb198, 1, none⟩ = some (.int .i64 0) := (blk_cell BK198.out 1).trans rfl; have hcz37_2 : w36.cell? ⟨gb198, 2, none⟩ = some (.int .i64 0) := (blk_cell BK198.out 2).trans rfl; have hcz37_3 : w36.cell? ⟨gb198, 3, none⟩ = some (.int .i64 0) := (blk_cell BK198.out 3).trans rfl; have hcz37_4 : w36.cell? ⟨gb198, 4, none⟩ = some (.int .i64 0) := (blk_cell BK198.out 4).trans rfl; have hfz37_0 := blk_frozen BK198.out 0; have hfz37_1 := blk_frozen BK198.out 1; have hfz37_2 := blk_frozen BK198.out 2; have hfz37_3 := blk_frozen BK198.out 3; have hfz37_4 := blk_frozen BK198.out 4))
            refine bodyPost_ret (results_ct rfl _ _ gb198 54 #[.int .i64 0, .int .i64 0, .int .i64 0, .int .i64 0, .int .i64 0] (0, 0) _ rfl (by (with_reducible repeat (first | refine blk_drewN ?_ _ | refine blk_drew ?_ | refine blk_alloc ?_ _)); refine blk_put (cs := #[.int .i64 0, .int .i64 0, .int .i64 0, .int .i64 0, .int .i64 0]) ?_ 4 _ rfl; (with_reducible repeat (first | refine blk_drewN ?_ _ | refine blk_drew ?_ | refine blk_alloc ?_ _)); refine blk_put (cs := #[.int .i64 0, .int .i64 0, .int .i64 0, .int .i64 0, .int .i64 0]) ?_ 3 _ rfl; (with_reducible repeat (first | refine blk_drewN ?_ _ | refine blk_drew ?_ | refine blk_alloc ?_ _)); refine blk_put (cs := #[.int .i64 0, .int .i64 0, .int .i64 0, .int .i64 0, .int .i64 0]) ?_ 2 _ rfl; (with_reducible repeat (first | refine blk_drewN ?_ _ | refine blk_drew ?_ | refine blk_alloc ?_ _)); refine blk_put (cs := #[.int .i64 0, .int .i64 0, .int .i64 0, .int .i64 0, .int .i64 0]) ?_ 1 _ rfl; (with_reducible repeat (first | refine blk_drewN ?_ _ | refine blk_drew ?_ | refine blk_alloc ?_ _)); refine blk_put (cs := #[.int .i64 0, .int .i64 0, .int .i64 0, .int .i64 0, .int .i64 0]) ?_ 0 _ rfl; (with_reducible repeat (first | refine blk_drewN ?_ _ | refine blk_drew ?_ | refine blk_alloc ?_ _)); exact BK198.out) Try.underlying54 rfl (by kernel_rfl)) rfl ?_
            exact ⟨by first | rfl | (simp [errW_none, errW_some] <;> rfl) | (simp [*, errW_none, errW_some] <;> rfl), by repeat (first | (with_reducible first | exact HB.out | apply below_alloc | apply pw_below_drewN | apply below_drew1 | refine below_set ?_ GE198.out | refine below_set ?_ GE199.out) | exact HB.out)⟩
          ·
           rw [if_neg c25] at H
           have c25b0 : (t206 == 0) = false := beq_eq_false_iff_ne.mpr c25
           have c25b1 : (t206 != 0) = true := bne_iff_ne.mpr c25
           simp only [Option.some.injEq, Prod.mk.injEq] at H
           obtain ⟨rfl, rfl, rfl, rfl, rfl, rfl⟩ := H
           go_wp2_with (first | ((with_reducible refine gate_callee (f := 44) rfl ?_); refine goesL_ (some 46) rfl rfl Try.func44 (by kernel_rfl) rfl #[.int .u32 a0, .int .i64 16] rfl (by (try simp only [List.map_toArray, List.map_cons, List.map_nil]); first | done | rfl | (simp only [List.length_drop, List.length_take]; rfl)) ?_; (with_reducible refine (pascalineref01_Sext.calls kj19 a0 16 t204 _ A23.out).mono ?_); rintro e w38 ⟨rfl, hb⟩; refine ⟨_, rfl, ?_⟩; have n0_ := Aside0.mk (blk_below (g := gb198) (o := .cells #[.int .i64 0, .int .i64 0, .int .i64 0, .int .i64 0, .int .i64 0] 54 (0, 0)) (by (with_reducible repeat (first | refine blk_drewN ?_ _ | refine blk_drew ?_ | refine blk_alloc ?_ _)); exact BK198.out) hb); have n1_ := Aside0.mk (blk_below (g := gb199) (o := .cells #[.int .i64 ((Int.tdiv a0 16777216) % 4294967296), .int .i64 x200001_3, .int .i64 x200002_11, .int .i64 x200003_15, .int .i64 0] 54 (0, 0)) (by (with_reducible repeat (first | refine blk_drewN ?_ _ | refine blk_drew ?_ | refine blk_alloc ?_ _)); exact BK199.out) hb); have n2_ := Aside0.mk (below_step (by repeat (first | (with_reducible first | exact HB.out | apply below_alloc | apply pw_below_drewN | apply below_drew1 | refine below_set ?_ GE198.out | refine below_set ?_ GE199.out) | exact HB.out)) hb); clear BK198; clear BK199; clear HB; have BK198 := n0_; have BK199 := n1_; have HB := n2_; clear n0_ n1_ n2_; (try clear hb); (try clear hb2); (try clear hk); (try clear hi); have hnb39 := NB199_198.out; have hnc39 := NB198_199.out; have hcz40_0 : w38.cell? ⟨gb199, 0, none⟩ = some (.int .i64 ((Int.tdiv a0 16777216) % 4294967296)) := (blk_cell BK199.out 0).trans rfl; have hcz40_1 : w38.cell? ⟨gb199, 1, none⟩ = some (.int .i64 x200001_3) := (blk_cell BK199.out 1).trans rfl; have hcz40_2 : w38.cell? ⟨gb199, 2, none⟩ = some (.int .i64 x200002_11) := (blk_cell BK199.out 2).trans rfl; have hcz40_3 : w38.cell? ⟨gb199, 3, none⟩ = some (.int .i64 x200003_15) := (blk_cell BK199.out 3).trans rfl; have hcz40_4 : w38.cell? ⟨gb199, 4, none⟩ = some (.int .i64 0) := (blk_cell BK199.out 4).trans rfl; have hfz40_0 := blk_frozen BK199.out 0; have hfz40_1 := blk_frozen BK199.out 1; have hfz40_2 := blk_frozen BK199.out 2; have hfz40_3 := blk_frozen BK199.out 3; have hfz40_4 := blk_frozen BK199.out 4) | ((with_reducible refine gate_callee (f := 45) rfl ?_); refine goesL_ (some 65) rfl rfl Try.func45 (by kernel_rfl) rfl #[.agg #[.int .i64 ((Int.tdiv a0 16777216) % 4294967296), .int .i64 x200001_3, .int .i64 x200002_11, .int .i64 x200003_15, .int .i64 (wrap64 (t204))]] rfl (by (try simp only [List.map_toArray, List.map_cons, List.map_nil]); first | done | rfl | (simp only [List.length_drop, List.length_take]; rfl)) ?_; (with_reducible refine (pascalineref02_Encode.calls kj19 ((Int.tdiv a0 16777216) % 4294967296) x200001_3 x200002_11 x200003_15 (wrap64 (t204)) t205 t206 _ A24.out).mono ?_); rintro e w41 ⟨rfl, hb⟩; refine ⟨_, rfl, ?_⟩; have n0_ := Aside0.mk (blk_below (g := gb198) (o := .cells #[.int .i64 0, .int .i64 0, .int .i64 0, .int .i64 0, .int .i64 0] 54 (0, 0)) (by (with_reducible repeat (first | refine blk_drewN ?_ _ | refine blk_drew ?_ | refine blk_alloc ?_ _)); refine blk_far ?_ NB198_199.out _; (with_reducible repeat (first | refine blk_drewN ?_ _ | refine blk_drew ?_ | refine blk_alloc ?_ _)); exact BK198.out) hb); have n1_ := Aside0.mk (blk_below (g := gb199) (o := .cells #[.int .i64 ((Int.tdiv a0 16777216) % 4294967296), .int .i64 x200001_3, .int .i64 x200002_11, .int .i64 x200003_15, .int .i64 (wrap64 (t204))] 54 (0, 0)) (by (with_reducible repeat (first | refine blk_drewN ?_ _ | refine blk_drew ?_ | refine blk_alloc ?_ _)); refine blk_put (cs := #[.int .i64 ((Int.tdiv a0 16777216) % 4294967296), .int .i64 x200001_3, .int .i64 x200002_11, .int .i64 x200003_15, .int .i64 0]) ?_ 4 _ rfl; (with_reducible repeat (first | refine blk_drewN ?_ _ | refine blk_drew ?_ | refine blk_alloc ?_ _)); exact BK199.out) hb); have n2_ := Aside0.mk (below_step (by repeat (first | (with_reducible first | exact HB.out | apply below_alloc | apply pw_below_drewN | apply below_drew1 | refine below_set ?_ GE198.out | refine below_set ?_ GE199.out) | exact HB.out)) hb); clear BK198; clear BK199; clear HB; have BK198 := n0_; have BK199 := n1_; have HB := n2_; clear n0_ n1_ n2_; (try clear hb); (try clear hb2); (try clear hk); (try clear hi); have hcz42_0 : w41.cell? ⟨gb198, 0, none⟩ = some (.int .i64 0) := (blk_cell BK198.out 0).trans rfl; have hcz42_1 : w41.cell? ⟨gb198, 1, none⟩ = some (.int .i64 0) := (blk_cell BK198.out 1).trans rfl; have hcz42_2 : w41.cell? ⟨gb198, 2, none⟩ = some (.int .i64 0) := (blk_cell BK198.out 2).trans rfl; have hcz42_3 : w41.cell? ⟨gb198, 3, none⟩ = some (.int .i64 0) := (blk_cell BK198.out 3).trans rfl; have hcz42_4 : w41.cell? ⟨gb198, 4, none⟩ = some (.int .i64 0) := (blk_cell BK198.out 4).trans rfl; have hfz42_0 := blk_frozen BK198.out 0; have hfz42_1 := blk_frozen BK198.out 1; have hfz42_2 := blk_frozen BK198.out 2; have hfz42_3 := blk_frozen BK198.out 3; have hfz42_4 := blk_frozen BK198.out 4))
           refine bodyPost_ret (results_ct rfl _ _ gb198 54 #[.int .i64 0, .int .i64 0, .int .i64 0, .int .i64 0, .int .i64 0] (0, 0) _ rfl (by (with_reducible repeat (first | refine blk_drewN ?_ _ | refine blk_drew ?_ | refine blk_alloc ?_ _)); refine blk_put (cs := #[.int .i64 0, .int .i64 0, .int .i64 0, .int .i64 0, .int .i64 0]) ?_ 4 _ rfl; (with_reducible repeat (first | refine blk_drewN ?_ _ | refine blk_drew ?_ | refine blk_alloc ?_ _)); refine blk_put (cs := #[.int .i64 0, .int .i64 0, .int .i64 0, .int .i64 0, .int .i64 0]) ?_ 3 _ rfl; (with_reducible repeat (first | refine blk_drewN ?_ _ | refine blk_drew ?_ | refine blk_alloc ?_ _)); refine blk_put (cs := #[.int .i64 0, .int .i64 0, .int .i64 0, .int .i64 0, .int .i64 0]) ?_ 2 _ rfl; (with_reducible repeat (first | refine blk_drewN ?_ _ | refine blk_drew ?_ | refine blk_alloc ?_ _)); refine blk_put (cs := #[.int .i64 0, .int .i64 0, .int .i64 0, .int .i64 0, .int .i64 0]) ?_ 1 _ rfl; (with_reducible repeat (first | refine blk_drewN ?_ _ | refine blk_drew ?_ | refine blk_alloc ?_ _)); refine blk_put (cs := #[.int .i64 0, .int .i64 0, .int .i64 0, .int .i64 0, .int .i64 0]) ?_ 0 _ rfl; (with_reducible repeat (first | refine blk_drewN ?_ _ | refine blk_drew ?_ | refine blk_alloc ?_ _)); exact BK198.out) Try.underlying54 rfl (by kernel_rfl)) rfl ?_
           exact ⟨by first | rfl | (simp [errW_none, errW_some] <;> rfl) | (simp [*, errW_none, errW_some] <;> rfl), by repeat (first | (with_reducible first | exact HB.out | apply below_alloc | apply pw_below_drewN | apply below_drew1 | refine below_set ?_ GE198.out | refine below_set ?_ GE199.out) | exact HB.out)⟩
         ·
          replace c22 := Bool.eq_false_iff.mpr c22
          subst c22
          have H1 : (if t200 = 2 then (pascalineref02_Decode.j4 kj19 a0 t200 (t200 == 2) ((Int.tdiv a0 16777216) % 4294967296) x200001_3 x200002_11 x200003_15 0) else (if t200 = 4 then (pascalineref02_Decode.j4 kj19 a0 t200 (t200 == 4) ((Int.tdiv a0 16777216) % 4294967296) x200001_3 x200002_11 x200003_15 0) else (pascalineref02_Decode.j4 kj19 a0 t200 (t200 == 8) ((Int.tdiv a0 16777216) % 4294967296) x200001_3 x200002_11 x200003_15 0))) = some (r1, r2, r3, r4, r5, r6) := by rw [if_neg (show ¬ (false = true) by decide)] at H; exact H
          clear H
          have H := H1
          clear H1
          have HC43 := Aside0.mk H
          clear H
          go_upto_if 49 with (fail)
          go_cut [49] (fun v49 wc => ∃ (kq : Nat) (x49_42 : Bool), v49 = .bool x49_42 ∧ Aside0 (pascalineref02_Decode.j4 kq a0 t200 x49_42 ((Int.tdiv a0 16777216) % 4294967296) x200001_3 x200002_11 x200003_15 0 = some (r1, r2, r3, r4, r5, r6)) ∧ Aside0 (kq ≤ kj19) ∧ Aside0 (wc.heap[gb198]? = some (.cells #[.int .i64 0, .int .i64 0, .int .i64 0, .int .i64 0, .int .i64 0] 54 (0, 0))) ∧ Aside0 (wc.heap[gb199]? = some (.cells #[.int .i64 ((Int.tdiv a0 16777216) % 4294967296), .int .i64 x200001_3, .int .i64 x200002_11, .int .i64 x200003_15, .int .i64 0] 54 (0, 0))) ∧ Aside0 (Below w.heap.size w wc))
          case first =>
           have H := HC43.out
           clear HC43
           by_cases c44 : t200 = 2
           ·
            rw [if_pos c44] at H
            have c44b0 : (t200 == 2) = true := beq_iff_eq.mpr c44
            have c44b1 : (t200 != 2) = false := bne_eq_false_iff_eq.mpr c44
            clear c44
            (first | rw [c44b0] | (simp only [i64_w, i32_w]; rw [c44b0]) | skip)
            have H' := Aside0.mk H
            clear H
            go_wp2
            go_meet
            case rel => exact ⟨_, ((t200 == 2)), (by first | rfl | (simp; done) | (simp [*]; done)), H', ⟨by have := HJ3.out; have := HJ11.out; have := HJ15.out; have := HJ19.out; first | omega | exact Nat.le_refl _⟩, ⟨by (with_reducible repeat (first | refine blk_drewN ?_ _ | refine blk_drew ?_ | refine blk_alloc ?_ _)); exact BK198.out⟩, ⟨by (with_reducible repeat (first | refine blk_drewN ?_ _ | refine blk_drew ?_ | refine blk_alloc ?_ _)); exact BK199.out⟩, ⟨by repeat (first | (with_reducible first | exact HB.out | apply below_alloc | apply pw_below_drewN | apply below_drew1 | refine below_set ?_ GE198.out | refine below_set ?_ GE199.out) | exact HB.out)⟩⟩
           ·
            rw [if_neg c44] at H
            have c44b0 : (t200 == 2) = false := beq_eq_false_iff_ne.mpr c44
            have c44b1 : (t200 != 2) = true := bne_iff_ne.mpr c44
            (first | rw [c44b0] | (simp only [i64_w, i32_w]; rw [c44b0]) | skip)
            by_cases c45 : t200 = 4
            ·
             rw [if_pos c45] at H
             have c45b0 : (t200 == 4) = true := beq_iff_eq.mpr c45
             have c45b1 : (t200 != 4) = false := bne_eq_false_iff_eq.mpr c45
             clear c45
             have H' := Aside0.mk H
             clear H
             go_wp2
             go_meet
             case rel => exact ⟨_, ((t200 == 4)), (by first | rfl | (simp; done) | (simp [*]; done)), H', ⟨by have := HJ3.out; have := HJ11.out; have := HJ15.out; have := HJ19.out; first | omega | exact Nat.le_refl _⟩, ⟨by (with_reducible repeat (first | refine blk_drewN ?_ _ | refine blk_drew ?_ | refine blk_alloc ?_ _)); exact BK198.out⟩, ⟨by (with_reducible repeat (first | refine blk_drewN ?_ _ | refine blk_drew ?_ | refine blk_alloc ?_ _)); exact BK199.out⟩, ⟨by repeat (first | (with_reducible first | exact HB.out | apply below_alloc | apply pw_below_drewN | apply below_drew1 | refine below_set ?_ GE198.out | refine below_set ?_ GE199.out) | exact HB.out)⟩⟩
            ·
             rw [if_neg c45] at H
             have c45b0 : (t200 == 4) = false := beq_eq_false_iff_ne.mpr c45
             have c45b1 : (t200 != 4) = true := bne_iff_ne.mpr c45
             have H' := Aside0.mk H
             clear H
             go_wp2
             go_meet
             case rel => exact ⟨_, ((t200 == 8)), (by first | rfl | (simp; done) | (simp [*]; done)), H', ⟨by have := HJ3.out; have := HJ11.out; have := HJ15.out; have := HJ19.out; first | omega | exact Nat.le_refl _⟩, ⟨by (with_reducible repeat (first | refine blk_drewN ?_ _ | refine blk_drew ?_ | refine blk_alloc ?_ _)); exact BK198.out⟩, ⟨by (with_reducible repeat (first | refine blk_drewN ?_ _ | refine blk_drew ?_ | refine blk_alloc ?_ _)); exact BK199.out⟩, ⟨by repeat (first | (with_reducible first | exact HB.out | apply below_alloc | apply pw_below_drewN | apply below_drew1 | refine below_set ?_ GE198.out | refine below_set ?_ GE199.out) | exact HB.out)⟩⟩
          case rest =>
           clear HC43
           (try clear c1); (try clear c2); (try clear p2); (try clear c3); (try clear c4); (try clear p6); (try clear c7); (try clear c9); (try clear c10); (try clear c13); (try clear c14); (try clear c17); (try clear c18); (try clear c21); (try clear c21b0); (try clear c21b1); (try clear c22); (try clear c23); (try clear c25); (try clear c25b0); (try clear c25b1); (try clear c26); (try clear c26b0); (try clear c26b1); (try clear c28); (try clear c34); (try clear c39); (try clear c42); (try clear c43); (try clear c44); (try clear c44b0); (try clear c44b1); (try clear c45); (try clear c45b0); (try clear c45b1); (try clear hcz11_0); (try clear hcz11_1); (try clear hcz11_2); (try clear hcz11_3); (try clear hcz11_4); (try clear hcz15_0); (try clear hcz15_1); (try clear hcz15_2); (try clear hcz15_3); (try clear hcz15_4); (try clear hcz19_0); (try clear hcz19_1); (try clear hcz19_2); (try clear hcz19_3); (try clear hcz19_4); (try clear hcz29_0); (try clear hcz29_1); (try clear hcz29_2); (try clear hcz29_3); (try clear hcz29_4); (try clear hcz31_0); (try clear hcz31_1); (try clear hcz31_2); (try clear hcz31_3); (try clear hcz31_4); (try clear hcz32_0); (try clear hcz32_1); (try clear hcz32_2); (try clear hcz32_3); (try clear hcz32_4); (try clear hcz35_0); (try clear hcz35_1); (try clear hcz35_2); (try clear hcz35_3); (try clear hcz35_4); (try clear hcz37_0); (try clear hcz37_1); (try clear hcz37_2); (try clear hcz37_3); (try clear hcz37_4); (try clear hcz40_0); (try clear hcz40_1); (try clear hcz40_2); (try clear hcz40_3); (try clear hcz40_4); (try clear hcz42_0); (try clear hcz42_1); (try clear hcz42_2); (try clear hcz42_3); (try clear hcz42_4); (try clear hcz8_0); (try clear hcz8_1); (try clear hcz8_2); (try clear hcz8_3); (try clear hcz8_4); (try clear hfz11_0); (try clear hfz11_1); (try clear hfz11_2); (try clear hfz11_3); (try clear hfz11_4); (try clear hfz15_0); (try clear hfz15_1); (try clear hfz15_2); (try clear hfz15_3); (try clear hfz15_4); (try clear hfz19_0); (try clear hfz19_1); (try clear hfz19_2); (try clear hfz19_3); (try clear hfz19_4); (try clear hfz29_0); (try clear hfz29_1); (try clear hfz29_2); (try clear hfz29_3); (try clear hfz29_4); (try clear hfz31_0); (try clear hfz31_1); (try clear hfz31_2); (try clear hfz31_3); (try clear hfz31_4); (try clear hfz32_0); (try clear hfz32_1); (try clear hfz32_2); (try clear hfz32_3); (try clear hfz32_4); (try clear hfz35_0); (try clear hfz35_1); (try clear hfz35_2); (try clear hfz35_3); (try clear hfz35_4); (try clear hfz37_0); (try clear hfz37_1); (try clear hfz37_2); (try clear hfz37_3); (try clear hfz37_4); (try clear hfz40_0); (try clear hfz40_1); (try clear hfz40_2); (try clear hfz40_3); (try clear hfz40_4); (try clear hfz42_0); (try clear hfz42_1); (try clear hfz42_2); (try clear hfz42_3); (try clear hfz42_4); (try clear hfz8_0); (try clear hfz8_1); (try clear hfz8_2); (try clear hfz8_3); (try clear hfz8_4); (try clear p2); (try clear p6)
           obtain ⟨kq, x49_42, rfl, HA, HJ42, BK198, BK199, HB⟩ := hcut
           cases kq with
           | zero => exact absurd HA.out (by simp [pascalineref02_Decode.j4])
           | succ kj42 =>
            have H := HA.out
            clear HA
            simp only [pascalineref02_Decode.j4] at H
            by_cases c46 : x49_42 = true
            ·
             subst c46
             have H1 : ((pascalineref02_Encode.f kj42 ((Int.tdiv a0 16777216) % 4294967296) x200001_3 x200002_11 x200003_15 (wrap64 (Int.tmod a0 65536))).bind fun bt207 => (if bt207.2 = 0 then (if bt207.1 = a0 then (some (((Int.tdiv a0 16777216) % 4294967296), x200001_3, x200002_11, x200003_15, wrap64 (Int.tmod a0 65536), 0)) else (some (0, 0, 0, 0, 0, 21))) else (some (0, 0, 0, 0, 0, 21)))) = some (r1, r2, r3, r4, r5, r6) := by rw [if_pos rfl] at H; exact H
             clear H
             have H := H1
             clear H1
             replace H := Option.bind_eq_some_iff.mp H
             obtain ⟨⟨t207, t208⟩, A470, H⟩ := H
             replace H : (if t208 = 0 then (if t207 = a0 then (some (((Int.tdiv a0 16777216) % 4294967296), x200001_3, x200002_11, x200003_15, wrap64 (Int.tmod a0 65536), 0)) else (some (0, 0, 0, 0, 0, 21))) else (some (0, 0, 0, 0, 0, 21))) = some (r1, r2, r3, r4, r5, r6) := H
             have A47 := Aside0.mk A470
             clear A470
             by_cases c48 : t208 = 0
             ·
              rw [if_pos c48] at H
              have c48b0 : (t208 == 0) = true := beq_iff_eq.mpr c48
              have c48b1 : (t208 != 0) = false := bne_eq_false_iff_eq.mpr c48
              clear c48
              by_cases c49 : t207 = a0
              ·
               rw [if_pos c49] at H
               have c49b0 : (t207 == a0) = true := beq_iff_eq.mpr c49
               have c49b1 : (t207 != a0) = false := bne_eq_false_iff_eq.mpr c49
               clear c49
               simp only [Option.some.injEq, Prod.mk.injEq] at H
               obtain ⟨rfl, rfl, rfl, rfl, rfl, rfl⟩ := H
               have hnb50 := NB199_198.out
               have hnc50 := NB198_199.out
               have hcz51_0 : wc.cell? ⟨gb199, 0, none⟩ = some (.int .i64 ((Int.tdiv a0 16777216) % 4294967296)) := (blk_cell BK199.out 0).trans rfl
               have hcz51_1 : wc.cell? ⟨gb199, 1, none⟩ = some (.int .i64 x200001_3) := (blk_cell BK199.out 1).trans rfl
               have hcz51_2 : wc.cell? ⟨gb199, 2, none⟩ = some (.int .i64 x200002_11) := (blk_cell BK199.out 2).trans rfl
               have hcz51_3 : wc.cell? ⟨gb199, 3, none⟩ = some (.int .i64 x200003_15) := (blk_cell BK199.out 3).trans rfl
               have hcz51_4 : wc.cell? ⟨gb199, 4, none⟩ = some (.int .i64 0) := (blk_cell BK199.out 4).trans rfl
               have hfz51_0 := blk_frozen BK199.out 0
               have hfz51_1 := blk_frozen BK199.out 1
               have hfz51_2 := blk_frozen BK199.out 2
               have hfz51_3 := blk_frozen BK199.out 3
               have hfz51_4 := blk_frozen BK199.out 4
               go_wp2_with (first | ((with_reducible refine gate_callee (f := 45) rfl ?_); refine goesL_ (some 65) rfl rfl Try.func45 (by kernel_rfl) rfl #[.agg #[.int .i64 ((Int.tdiv a0 16777216) % 4294967296), .int .i64 x200001_3, .int .i64 x200002_11, .int .i64 x200003_15, .int .i64 (wrap64 (Int.tmod a0 65536))]] rfl (by (try simp only [List.map_toArray, List.map_cons, List.map_nil]); first | done | rfl | (simp only [List.length_drop, List.length_take]; rfl)) ?_; (with_reducible refine (pascalineref02_Encode.calls kj42 ((Int.tdiv a0 16777216) % 4294967296) x200001_3 x200002_11 x200003_15 (wrap64 (Int.tmod a0 65536)) t207 t208 _ A47.out).mono ?_); rintro e w52 ⟨rfl, hb⟩; refine ⟨_, rfl, ?_⟩; have n0_ := Aside0.mk (blk_below (g := gb198) (o := .cells #[.int .i64 0, .int .i64 0, .int .i64 0, .int .i64 0, .int .i64 0] 54 (0, 0)) (by (with_reducible repeat (first | refine blk_drewN ?_ _ | refine blk_drew ?_ | refine blk_alloc ?_ _)); refine blk_far ?_ NB198_199.out _; (with_reducible repeat (first | refine blk_drewN ?_ _ | refine blk_drew ?_ | refine blk_alloc ?_ _)); exact BK198.out) hb); have n1_ := Aside0.mk (blk_below (g := gb199) (o := .cells #[.int .i64 ((Int.tdiv a0 16777216) % 4294967296), .int .i64 x200001_3, .int .i64 x200002_11, .int .i64 x200003_15, .int .i64 (wrap64 (Int.tmod a0 65536))] 54 (0, 0)) (by (with_reducible repeat (first | refine blk_drewN ?_ _ | refine blk_drew ?_ | refine blk_alloc ?_ _)); refine blk_put (cs := #[.int .i64 ((Int.tdiv a0 16777216) % 4294967296), .int .i64 x200001_3, .int .i64 x200002_11, .int .i64 x200003_15, .int .i64 0]) ?_ 4 _ rfl; (with_reducible repeat (first | refine blk_drewN ?_ _ | refine blk_drew ?_ | refine blk_alloc ?_ _)); exact BK199.out) hb); have n2_ := Aside0.mk (below_step (by repeat (first | (with_reducible first | exact HB.out | apply below_alloc | apply pw_below_drewN | apply below_drew1 | refine below_set ?_ GE198.out | refine below_set ?_ GE199.out) | exact HB.out)) hb); clear BK198; clear BK199; clear HB; have BK198 := n0_; have BK199 := n1_; have HB := n2_; clear n0_ n1_ n2_; (try clear hb); (try clear hb2); (try clear hk); (try clear hi); have hcz53_0 : w52.cell? ⟨gb199, 0, none⟩ = some (.int .i64 ((Int.tdiv a0 16777216) % 4294967296)) := (blk_cell BK199.out 0).trans rfl; have hcz53_1 : w52.cell? ⟨gb199, 1, none⟩ = some (.int .i64 x200001_3) := (blk_cell BK199.out 1).trans rfl; have hcz53_2 : w52.cell? ⟨gb199, 2, none⟩ = some (.int .i64 x200002_11) := (blk_cell BK199.out 2).trans rfl; have hcz53_3 : w52.cell? ⟨gb199, 3, none⟩ = some (.int .i64 x200003_15) := (blk_cell BK199.out 3).trans rfl; have hcz53_4 : w52.cell? ⟨gb199, 4, none⟩ = some (.int .i64 (wrap64 (Int.tmod a0 65536))) := (blk_cell BK199.out 4).trans rfl; have hfz53_0 := blk_frozen BK199.out 0; have hfz53_1 := blk_frozen BK199.out 1; have hfz53_2 := blk_frozen BK199.out 2; have hfz53_3 := blk_frozen BK199.out 3; have hfz53_4 := blk_frozen BK199.out 4; have hcz54_0 : w52.cell? ⟨gb198, 0, none⟩ = some (.int .i64 0) := (blk_cell BK198.out 0).trans rfl; have hcz54_1 : w52.cell? ⟨gb198, 1, none⟩ = some (.int .i64 0) := (blk_cell BK198.out 1).trans rfl; have hcz54_2 : w52.cell? ⟨gb198, 2, none⟩ = some (.int .i64 0) := (blk_cell BK198.out 2).trans rfl; have hcz54_3 : w52.cell? ⟨gb198, 3, none⟩ = some (.int .i64 0) := (blk_cell BK198.out 3).trans rfl; have hcz54_4 : w52.cell? ⟨gb198, 4, none⟩ = some (.int .i64 0) := (blk_cell BK198.out 4).trans rfl; have hfz54_0 := blk_frozen BK198.out 0; have hfz54_1 := blk_frozen BK198.out 1; have hfz54_2 := blk_frozen BK198.out 2; have hfz54_3 := blk_frozen BK198.out 3; have hfz54_4 := blk_frozen BK198.out 4))
               refine bodyPost_ret (results_ct rfl _ _ gb198 54 #[.int .i64 ((Int.tdiv a0 16777216) % 4294967296), .int .i64 x200001_3, .int .i64 x200002_11, .int .i64 x200003_15, .int .i64 (wrap64 (Int.tmod a0 65536))] (0, 0) _ rfl (by (with_reducible repeat (first | refine blk_drewN ?_ _ | refine blk_drew ?_ | refine blk_alloc ?_ _)); refine blk_put (cs := #[.int .i64 ((Int.tdiv a0 16777216) % 4294967296), .int .i64 x200001_3, .int .i64 x200002_11, .int .i64 x200003_15, .int .i64 0]) ?_ 4 _ rfl; (with_reducible repeat (first | refine blk_drewN ?_ _ | refine blk_drew ?_ | refine blk_alloc ?_ _)); refine blk_put (cs := #[.int .i64 ((Int.tdiv a0 16777216) % 4294967296), .int .i64 x200001_3, .int .i64 x200002_11, .int .i64 0, .int .i64 0]) ?_ 3 _ rfl; (with_reducible repeat (first | refine blk_drewN ?_ _ | refine blk_drew ?_ | refine blk_alloc ?_ _)); refine blk_put (cs := #[.int .i64 ((Int.tdiv a0 16777216) % 4294967296), .int .i64 x200001_3, .int .i64 0, .int .i64 0, .int .i64 0]) ?_ 2 _ rfl; (with_reducible repeat (first | refine blk_drewN ?_ _ | refine blk_drew ?_ | refine blk_alloc ?_ _)); refine blk_put (cs := #[.int .i64 ((Int.tdiv a0 16777216) % 4294967296), .int .i64 0, .int .i64 0, .int .i64 0, .int .i64 0]) ?_ 1 _ rfl; (with_reducible repeat (first | refine blk_drewN ?_ _ | refine blk_drew ?_ | refine blk_alloc ?_ _)); refine blk_put (cs := #[.int .i64 0, .int .i64 0, .int .i64 0, .int .i64 0, .int .i64 0]) ?_ 0 _ rfl; (with_reducible repeat (first | refine blk_drewN ?_ _ | refine blk_drew ?_ | refine blk_alloc ?_ _)); exact BK198.out) Try.underlying54 rfl (by kernel_rfl)) rfl ?_
               exact ⟨by first | rfl | (simp [errW_none, errW_some] <;> rfl) | (simp [*, errW_none, errW_some] <;> rfl), by repeat (first | (with_reducible first | exact HB.out | apply below_alloc | apply pw_below_drewN | apply below_drew1 | refine below_set ?_ GE198.out | refine below_set ?_ GE199.out) | exact HB.out)⟩
              ·
               rw [if_neg c49] at H
               have c49b0 : (t207 == a0) = false := beq_eq_false_iff_ne.mpr c49
               have c49b1 : (t207 != a0) = true := bne_iff_ne.mpr c49
               simp only [Option.some.injEq, Prod.mk.injEq] at H
               obtain ⟨rfl, rfl, rfl, rfl, rfl, rfl⟩ := H
               have hnb55 := NB199_198.out
               have hnc55 := NB198_199.out
               have hcz56_0 : wc.cell? ⟨gb199, 0, none⟩ = some (.int .i64 ((Int.tdiv a0 16777216) % 4294967296)) := (blk_cell BK199.out 0).trans rfl
               have hcz56_1 : wc.cell? ⟨gb199, 1, none⟩ = some (.int .i64 x200001_3) := (blk_cell BK199.out 1).trans rfl
               have hcz56_2 : wc.cell? ⟨gb199, 2, none⟩ = some (.int .i64 x200002_11) := (blk_cell BK199.out 2).trans rfl
               have hcz56_3 : wc.cell? ⟨gb199, 3, none⟩ = some (.int .i64 x200003_15) := (blk_cell BK199.out 3).trans rfl
               have hcz56_4 : wc.cell? ⟨gb199, 4, none⟩ = some (.int .i64 0) := (blk_cell BK199.out 4).trans rfl
               have hfz56_0 := blk_frozen BK199.out 0
               have hfz56_1 := blk_frozen BK199.out 1
               have hfz56_2 := blk_frozen BK199.out 2
               have hfz56_3 := blk_frozen BK199.out 3
               have hfz56_4 := blk_frozen BK199.out 4
               go_wp2_with (first | ((with_reducible refine gate_callee (f := 45) rfl ?_); refine goesL_ (some 65) rfl rfl Try.func45 (by kernel_rfl) rfl #[.agg #[.int .i64 ((Int.tdiv a0 16777216) % 4294967296), .int .i64 x200001_3, .int .i64 x200002_11, .int .i64 x200003_15, .int .i64 (wrap64 (Int.tmod a0 65536))]] rfl (by (try simp only [List.map_toArray, List.map_cons, List.map_nil]); first | done | rfl | (simp only [List.length_drop, List.length_take]; rfl)) ?_; (with_reducible refine (pascalineref02_Encode.calls kj42 ((Int.tdiv a0 16777216) % 4294967296) x200001_3 x200002_11 x200003_15 (wrap64 (Int.tmod a0 65536)) t207 t208 _ A47.out).mono ?_); rintro e w57 ⟨rfl, hb⟩; refine ⟨_, rfl, ?_⟩; have n0_ := Aside0.mk (blk_below (g := gb198) (o := .cells #[.int .i64 0, .int .i64 0, .int .i64 0, .int .i64 0, .int .i64 0] 54 (0, 0)) (by (with_reducible repeat (first | refine blk_drewN ?_ _ | refine blk_drew ?_ | refine blk_alloc ?_ _)); refine blk_far ?_ NB198_199.out _; (with_reducible repeat (first | refine blk_drewN ?_ _ | refine blk_drew ?_ | refine blk_alloc ?_ _)); exact BK198.out) hb); have n1_ := Aside0.mk (blk_below (g := gb199) (o := .cells #[.int .i64 ((Int.tdiv a0 16777216) % 4294967296), .int .i64 x200001_3, .int .i64 x200002_11, .int .i64 x200003_15, .int .i64 (wrap64 (Int.tmod a0 65536))] 54 (0, 0)) (by (with_reducible repeat (first | refine blk_drewN ?_ _ | refine blk_drew ?_ | refine blk_alloc ?_ _)); refine blk_put (cs := #[.int .i64 ((Int.tdiv a0 16777216) % 4294967296), .int .i64 x200001_3, .int .i64 x200002_11, .int .i64 x200003_15, .int .i64 0]) ?_ 4 _ rfl; (with_reducible repeat (first | refine blk_drewN ?_ _ | refine blk_drew ?_ | refine blk_alloc ?_ _)); exact BK199.out) hb); have n2_ := Aside0.mk (below_step (by repeat (first | (with_reducible first | exact HB.out | apply below_alloc | apply pw_below_drewN | apply below_drew1 | refine below_set ?_ GE198.out | refine below_set ?_ GE199.out) | exact HB.out)) hb); clear BK198; clear BK199; clear HB; have BK198 := n0_; have BK199 := n1_; have HB := n2_; clear n0_ n1_ n2_; (try clear hb); (try clear hb2); (try clear hk); (try clear hi); have hcz58_0 : w57.cell? ⟨gb198, 0, none⟩ = some (.int .i64 0) := (blk_cell BK198.out 0).trans rfl; have hcz58_1 : w57.cell? ⟨gb198, 1, none⟩ = some (.int .i64 0) := (blk_cell BK198.out 1).trans rfl; have hcz58_2 : w57.cell? ⟨gb198, 2, none⟩ = some (.int .i64 0) := (blk_cell BK198.out 2).trans rfl; have hcz58_3 : w57.cell? ⟨gb198, 3, none⟩ = some (.int .i64 0) := (blk_cell BK198.out 3).trans rfl; have hcz58_4 : w57.cell? ⟨gb198, 4, none⟩ = some (.int .i64 0) := (blk_cell BK198.out 4).trans rfl; have hfz58_0 := blk_frozen BK198.out 0; have hfz58_1 := blk_frozen BK198.out 1; have hfz58_2 := blk_frozen BK198.out 2; have hfz58_3 := blk_frozen BK198.out 3; have hfz58_4 := blk_frozen BK198.out 4))
               refine bodyPost_ret (results_ct rfl _ _ gb198 54 #[.int .i64 0, .int .i64 0, .int .i64 0, .int .i64 0, .int .i64 0] (0, 0) _ rfl (by (with_reducible repeat (first | refine blk_drewN ?_ _ | refine blk_drew ?_ | refine blk_alloc ?_ _)); refine blk_put (cs := #[.int .i64 0, .int .i64 0, .int .i64 0, .int .i64 0, .int .i64 0]) ?_ 4 _ rfl; (with_reducible repeat (first | refine blk_drewN ?_ _ | refine blk_drew ?_ | refine blk_alloc ?_ _)); refine blk_put (cs := #[.int .i64 0, .int .i64 0, .int .i64 0, .int .i64 0, .int .i64 0]) ?_ 3 _ rfl; (with_reducible repeat (first | refine blk_drewN ?_ _ | refine blk_drew ?_ | refine blk_alloc ?_ _)); refine blk_put (cs := #[.int .i64 0, .int .i64 0, .int .i64 0, .int .i64 0, .int .i64 0]) ?_ 2 _ rfl; (with_reducible repeat (first | refine blk_drewN ?_ _ | refine blk_drew ?_ | refine blk_alloc ?_ _)); refine blk_put (cs := #[.int .i64 0, .int .i64 0, .int .i64 0, .int .i64 0, .int .i64 0]) ?_ 1 _ rfl; (with_reducible repeat (first | refine blk_drewN ?_ _ | refine blk_drew ?_ | refine blk_alloc ?_ _)); refine blk_put (cs := #[.int .i64 0, .int .i64 0, .int .i64 0, .int .i64 0, .int .i64 0]) ?_ 0 _ rfl; (with_reducible repeat (first | refine blk_drewN ?_ _ | refine blk_drew ?_ | refine blk_alloc ?_ _)); exact BK198.out) Try.underlying54 rfl (by kernel_rfl)) rfl ?_
               exact ⟨by first | rfl | (simp [errW_none, errW_some] <;> rfl) | (simp [*, errW_none, errW_some] <;> rfl), by repeat (first | (with_reducible first | exact HB.out | apply below_alloc | apply pw_below_drewN | apply below_drew1 | refine below_set ?_ GE198.out | refine below_set ?_ GE199.out) | exact HB.out)⟩
             ·
              rw [if_neg c48] at H
              have c48b0 : (t208 == 0) = false := beq_eq_false_iff_ne.mpr c48
              have c48b1 : (t208 != 0) = true := bne_iff_ne.mpr c48
              simp only [Option.some.injEq, Prod.mk.injEq] at H
              obtain ⟨rfl, rfl, rfl, rfl, rfl, rfl⟩ := H
              have hnb59 := NB199_198.out
              have hnc59 := NB198_199.out
              have hcz60_0 : wc.cell? ⟨gb199, 0, none⟩ = some (.int .i64 ((Int.tdiv a0 16777216) % 4294967296)) := (blk_cell BK199.out 0).trans rfl
              have hcz60_1 : wc.cell? ⟨gb199, 1, none⟩ = some (.int .i64 x200001_3) := (blk_cell BK199.out 1).trans rfl
              have hcz60_2 : wc.cell? ⟨gb199, 2, none⟩ = some (.int .i64 x200002_11) := (blk_cell BK199.out 2).trans rfl
              have hcz60_3 : wc.cell? ⟨gb199, 3, none⟩ = some (.int .i64 x200003_15) := (blk_cell BK199.out 3).trans rfl
              have hcz60_4 : wc.cell? ⟨gb199, 4, none⟩ = some (.int .i64 0) := (blk_cell BK199.out 4).trans rfl
              have hfz60_0 := blk_frozen BK199.out 0
              have hfz60_1 := blk_frozen BK199.out 1
              have hfz60_2 := blk_frozen BK199.out 2
              have hfz60_3 := blk_frozen BK199.out 3
              have hfz60_4 := blk_frozen BK199.out 4
              go_wp2_with (first | ((with_reducible refine gate_callee (f := 45) rfl ?_); refine goesL_ (some 65) rfl rfl Try.func45 (by kernel_rfl) rfl #[.agg #[.int .i64 ((Int.tdiv a0 16777216) % 4294967296), .int .i64 x200001_3, .int .i64 x200002_11, .int .i64 x200003_15, .int .i64 (wrap64 (Int.tmod a0 65536))]] rfl (by (try simp only [List.map_toArray, List.map_cons, List.map_nil]); first | done | rfl | (simp only [List.length_drop, List.length_take]; rfl)) ?_; (with_reducible refine (pascalineref02_Encode.calls kj42 ((Int.tdiv a0 16777216) % 4294967296) x200001_3 x200002_11 x200003_15 (wrap64 (Int.tmod a0 65536)) t207 t208 _ A47.out).mono ?_); rintro e w61 ⟨rfl, hb⟩; refine ⟨_, rfl, ?_⟩; have n0_ := Aside0.mk (blk_below (g := gb198) (o := .cells #[.int .i64 0, .int .i64 0, .int .i64 0, .int .i64 0, .int .i64 0] 54 (0, 0)) (by (with_reducible repeat (first | refine blk_drewN ?_ _ | refine blk_drew ?_ | refine blk_alloc ?_ _)); refine blk_far ?_ NB198_199.out _; (with_reducible repeat (first | refine blk_drewN ?_ _ | refine blk_drew ?_ | refine blk_alloc ?_ _)); exact BK198.out) hb); have n1_ := Aside0.mk (blk_below (g := gb199) (o := .cells #[.int .i64 ((Int.tdiv a0 16777216) % 4294967296), .int .i64 x200001_3, .int .i64 x200002_11, .int .i64 x200003_15, .int .i64 (wrap64 (Int.tmod a0 65536))] 54 (0, 0)) (by (with_reducible repeat (first | refine blk_drewN ?_ _ | refine blk_drew ?_ | refine blk_alloc ?_ _)); refine blk_put (cs := #[.int .i64 ((Int.tdiv a0 16777216) % 4294967296), .int .i64 x200001_3, .int .i64 x200002_11, .int .i64 x200003_15, .int .i64 0]) ?_ 4 _ rfl; (with_reducible repeat (first | refine blk_drewN ?_ _ | refine blk_drew ?_ | refine blk_alloc ?_ _)); exact BK199.out) hb); have n2_ := Aside0.mk (below_step (by repeat (first | (with_reducible first | exact HB.out | apply below_alloc | apply pw_below_drewN | apply below_drew1 | refine below_set ?_ GE198.out | refine below_set ?_ GE199.out) | exact HB.out)) hb); clear BK198; clear BK199; clear HB; have BK198 := n0_; have BK199 := n1_; have HB := n2_; clear n0_ n1_ n2_; (try clear hb); (try clear hb2); (try clear hk); (try clear hi); have hcz62_0 : w61.cell? ⟨gb198, 0, none⟩ = some (.int .i64 0) := (blk_cell BK198.out 0).trans rfl; have hcz62_1 : w61.cell? ⟨gb198, 1, none⟩ = some (.int .i64 0) := (blk_cell BK198.out 1).trans rfl; have hcz62_2 : w61.cell? ⟨gb198, 2, none⟩ = some (.int .i64 0) := (blk_cell BK198.out 2).trans rfl; have hcz62_3 : w61.cell? ⟨gb198, 3, none⟩ = some (.int .i64 0) := (blk_cell BK198.out 3).trans rfl; have hcz62_4 : w61.cell? ⟨gb198, 4, none⟩ = some (.int .i64 0) := (blk_cell BK198.out 4).trans rfl; have hfz62_0 := blk_frozen BK198.out 0; have hfz62_1 := blk_frozen BK198.out 1; have hfz62_2 := blk_frozen BK198.out 2; have hfz62_3 := blk_frozen BK198.out 3; have hfz62_4 := blk_frozen BK198.out 4))
              refine bodyPost_ret (results_ct rfl _ _ gb198 54 #[.int .i64 0, .int .i64 0, .int .i64 0, .int .i64 0, .int .i64 0] (0, 0) _ rfl (by (with_reducible repeat (first | refine blk_drewN ?_ _ | refine blk_drew ?_ | refine blk_alloc ?_ _)); refine blk_put (cs := #[.int .i64 0, .int .i64 0, .int .i64 0, .int .i64 0, .int .i64 0]) ?_ 4 _ rfl; (with_reducible repeat (first | refine blk_drewN ?_ _ | refine blk_drew ?_ | refine blk_alloc ?_ _)); refine blk_put (cs := #[.int .i64 0, .int .i64 0, .int .i64 0, .int .i64 0, .int .i64 0]) ?_ 3 _ rfl; (with_reducible repeat (first | refine blk_drewN ?_ _ | refine blk_drew ?_ | refine blk_alloc ?_ _)); refine blk_put (cs := #[.int .i64 0, .int .i64 0, .int .i64 0, .int .i64 0, .int .i64 0]) ?_ 2 _ rfl; (with_reducible repeat (first | refine blk_drewN ?_ _ | refine blk_drew ?_ | refine blk_alloc ?_ _)); refine blk_put (cs := #[.int .i64 0, .int .i64 0, .int .i64 0, .int .i64 0, .int .i64 0]) ?_ 1 _ rfl; (with_reducible repeat (first | refine blk_drewN ?_ _ | refine blk_drew ?_ | refine blk_alloc ?_ _)); refine blk_put (cs := #[.int .i64 0, .int .i64 0, .int .i64 0, .int .i64 0, .int .i64 0]) ?_ 0 _ rfl; (with_reducible repeat (first | refine blk_drewN ?_ _ | refine blk_drew ?_ | refine blk_alloc ?_ _)); exact BK198.out) Try.underlying54 rfl (by kernel_rfl)) rfl ?_
              exact ⟨by first | rfl | (simp [errW_none, errW_some] <;> rfl) | (simp [*, errW_none, errW_some] <;> rfl), by repeat (first | (with_reducible first | exact HB.out | apply below_alloc | apply pw_below_drewN | apply below_drew1 | refine below_set ?_ GE198.out | refine below_set ?_ GE199.out) | exact HB.out)⟩
            ·
             replace c46 := Bool.eq_false_iff.mpr c46
             subst c46
             have H1 : (if t200 = 7 then ((pascalineref01_Sext.f kj42 a0 24).bind fun t209 => ((pascalineref02_Encode.f kj42 ((Int.tdiv a0 16777216) % 4294967296) x200001_3 x200002_11 x200003_15 (wrap64 (t209))).bind fun bt210 => (if bt210.2 = 0 then (if bt210.1 = a0 then (some (((Int.tdiv a0 16777216) % 4294967296), x200001_3, x200002_11, x200003_15, wrap64 (t209), 0)) else (some (0, 0, 0, 0, 0, 21))) else (some (0, 0, 0, 0, 0, 21))))) else ((pascalineref02_Encode.f kj42 ((Int.tdiv a0 16777216) % 4294967296) x200001_3 x200002_11 x200003_15 0).bind fun bt212 => (if bt212.2 = 0 then (if bt212.1 = a0 then (some (((Int.tdiv a0 16777216) % 4294967296), x200001_3, x200002_11, x200003_15, 0, 0)) else (some (0, 0, 0, 0, 0, 21))) else (some (0, 0, 0, 0, 0, 21))))) = some (r1, r2, r3, r4, r5, r6) := by rw [if_neg (show ¬ (false = true) by decide)] at H; exact H
             clear H
             have H := H1
             clear H1
             by_cases c63 : t200 = 7
             ·
              rw [if_pos c63] at H
              have c63b0 : (t200 == 7) = true := beq_iff_eq.mpr c63
              have c63b1 : (t200 != 7) = false := bne_eq_false_iff_eq.mpr c63
              clear c63
              replace H := Option.bind_eq_some_iff.mp H
              obtain ⟨t209, A640, H⟩ := H
              replace H : ((pascalineref02_Encode.f kj42 ((Int.tdiv a0 16777216) % 4294967296) x200001_3 x200002_11 x200003_15 (wrap64 (t209))).bind fun bt210 => (if bt210.2 = 0 then (if bt210.1 = a0 then (some (((Int.tdiv a0 16777216) % 4294967296), x200001_3, x200002_11, x200003_15, wrap64 (t209), 0)) else (some (0, 0, 0, 0, 0, 21))) else (some (0, 0, 0, 0, 0, 21)))) = some (r1, r2, r3, r4, r5, r6) := H
              have A64 := Aside0.mk A640
              clear A640
              replace H := Option.bind_eq_some_iff.mp H
              obtain ⟨⟨t210, t211⟩, A650, H⟩ := H
              replace H : (if t211 = 0 then (if t210 = a0 then (some (((Int.tdiv a0 16777216) % 4294967296), x200001_3, x200002_11, x200003_15, wrap64 (t209), 0)) else (some (0, 0, 0, 0, 0, 21))) else (some (0, 0, 0, 0, 0, 21))) = some (r1, r2, r3, r4, r5, r6) := H
              have A65 := Aside0.mk A650
              clear A650
              by_cases c66 : t211 = 0
              ·
               rw [if_pos c66] at H
               have c66b0 : (t211 == 0) = true := beq_iff_eq.mpr c66
               have c66b1 : (t211 != 0) = false := bne_eq_false_iff_eq.mpr c66
               clear c66
               by_cases c67 : t210 = a0
               ·
                rw [if_pos c67] at H
                have c67b0 : (t210 == a0) = true := beq_iff_eq.mpr c67
                have c67b1 : (t210 != a0) = false := bne_eq_false_iff_eq.mpr c67
                clear c67
                simp only [Option.some.injEq, Prod.mk.injEq] at H
                obtain ⟨rfl, rfl, rfl, rfl, rfl, rfl⟩ := H
                go_wp2_with (first | ((with_reducible refine gate_callee (f := 44) rfl ?_); refine goesL_ (some 60) rfl rfl Try.func44 (by kernel_rfl) rfl #[.int .u32 a0, .int .i64 24] rfl (by (try simp only [List.map_toArray, List.map_cons, List.map_nil]); first | done | rfl | (simp only [List.length_drop, List.length_take]; rfl)) ?_; (with_reducible refine (pascalineref01_Sext.calls kj42 a0 24 t209 _ A64.out).mono ?_); rintro e w68 ⟨rfl, hb⟩; refine ⟨_, rfl, ?_⟩; have n0_ := Aside0.mk (blk_below (g := gb198) (o := .cells #[.int .i64 0, .int .i64 0, .int .i64 0, .int .i64 0, .int .i64 0] 54 (0, 0)) (by (with_reducible repeat (first | refine blk_drewN ?_ _ | refine blk_drew ?_ | refine blk_alloc ?_ _)); exact BK198.out) hb); have n1_ := Aside0.mk (blk_below (g := gb199) (o := .cells #[.int .i64 ((Int.tdiv a0 16777216) % 4294967296), .int .i64 x200001_3, .int .i64 x200002_11, .int .i64 x200003_15, .int .i64 0] 54 (0, 0)) (by (with_reducible repeat (first | refine blk_drewN ?_ _ | refine blk_drew ?_ | refine blk_alloc ?_ _)); exact BK199.out) hb); have n2_ := Aside0.mk (below_step (by repeat (first | (with_reducible first | exact HB.out | apply below_alloc | apply pw_below_drewN | apply below_drew1 | refine below_set ?_ GE198.out | refine below_set ?_ GE199.out) | exact HB.out)) hb); clear BK198; clear BK199; clear HB; have BK198 := n0_; have BK199 := n1_; have HB := n2_; clear n0_ n1_ n2_; (try clear hb); (try clear hb2); (try clear hk); (try clear hi); have hnb69 := NB199_198.out; have hnc69 := NB198_199.out; have hcz70_0 : w68.cell? ⟨gb199, 0, none⟩ = some (.int .i64 ((Int.tdiv a0 16777216) % 4294967296)) := (blk_cell BK199.out 0).trans rfl; have hcz70_1 : w68.cell? ⟨gb199, 1, none⟩ = some (.int .i64 x200001_3) := (blk_cell BK199.out 1).trans rfl; have hcz70_2 : w68.cell? ⟨gb199, 2, none⟩ = some (.int .i64 x200002_11) := (blk_cell BK199.out 2).trans rfl; have hcz70_3 : w68.cell? ⟨gb199, 3, none⟩ = some (.int .i64 x200003_15) := (blk_cell BK199.out 3).trans rfl; have hcz70_4 : w68.cell? ⟨gb199, 4, none⟩ = some (.int .i64 0) := (blk_cell BK199.out 4).trans rfl; have hfz70_0 := blk_frozen BK199.out 0; have hfz70_1 := blk_frozen BK199.out 1; have hfz70_2 := blk_frozen BK199.out 2; have hfz70_3 := blk_frozen BK199.out 3; have hfz70_4 := blk_frozen BK199.out 4) | ((with_reducible refine gate_callee (f := 45) rfl ?_); refine goesL_ (some 65) rfl rfl Try.func45 (by kernel_rfl) rfl #[.agg #[.int .i64 ((Int.tdiv a0 16777216) % 4294967296), .int .i64 x200001_3, .int .i64 x200002_11, .int .i64 x200003_15, .int .i64 (wrap64 (t209))]] rfl (by (try simp only [List.map_toArray, List.map_cons, List.map_nil]); first | done | rfl | (simp only [List.length_drop, List.length_take]; rfl)) ?_; (with_reducible refine (pascalineref02_Encode.calls kj42 ((Int.tdiv a0 16777216) % 4294967296) x200001_3 x200002_11 x200003_15 (wrap64 (t209)) t210 t211 _ A65.out).mono ?_); rintro e w71 ⟨rfl, hb⟩; refine ⟨_, rfl, ?_⟩; have n0_ := Aside0.mk (blk_below (g := gb198) (o := .cells #[.int .i64 0, .int .i64 0, .int .i64 0, .int .i64 0, .int .i64 0] 54 (0, 0)) (by (with_reducible repeat (first | refine blk_drewN ?_ _ | refine blk_drew ?_ | refine blk_alloc ?_ _)); refine blk_far ?_ NB198_199.out _; (with_reducible repeat (first | refine blk_drewN ?_ _ | refine blk_drew ?_ | refine blk_alloc ?_ _)); exact BK198.out) hb); have n1_ := Aside0.mk (blk_below (g := gb199) (o := .cells #[.int .i64 ((Int.tdiv a0 16777216) % 4294967296), .int .i64 x200001_3, .int .i64 x200002_11, .int .i64 x200003_15, .int .i64 (wrap64 (t209))] 54 (0, 0)) (by (with_reducible repeat (first | refine blk_drewN ?_ _ | refine blk_drew ?_ | refine blk_alloc ?_ _)); refine blk_put (cs := #[.int .i64 ((Int.tdiv a0 16777216) % 4294967296), .int .i64 x200001_3, .int .i64 x200002_11, .int .i64 x200003_15, .int .i64 0]) ?_ 4 _ rfl; (with_reducible repeat (first | refine blk_drewN ?_ _ | refine blk_drew ?_ | refine blk_alloc ?_ _)); exact BK199.out) hb); have n2_ := Aside0.mk (below_step (by repeat (first | (with_reducible first | exact HB.out | apply below_alloc | apply pw_below_drewN | apply below_drew1 | refine below_set ?_ GE198.out | refine below_set ?_ GE199.out) | exact HB.out)) hb); clear BK198; clear BK199; clear HB; have BK198 := n0_; have BK199 := n1_; have HB := n2_; clear n0_ n1_ n2_; (try clear hb); (try clear hb2); (try clear hk); (try clear hi); have hcz72_0 : w71.cell? ⟨gb199, 0, none⟩ = some (.int .i64 ((Int.tdiv a0 16777216) % 4294967296)) := (blk_cell BK199.out 0).trans rfl; have hcz72_1 : w71.cell? ⟨gb199, 1, none⟩ = some (.int .i64 x200001_3) := (blk_cell BK199.out 1).trans rfl; have hcz72_2 : w71.cell? ⟨gb199, 2, none⟩ = some (.int .i64 x200002_11) := (blk_cell BK199.out 2).trans rfl; have hcz72_3 : w71.cell? ⟨gb199, 3, none⟩ = some (.int .i64 x200003_15) := (blk_cell BK199.out 3).trans rfl; have hcz72_4 : w71.cell? ⟨gb199, 4, none⟩ = some (.int .i64 (wrap64 (t209))) := (blk_cell BK199.out 4).trans rfl; have hfz72_0 := blk_frozen BK199.out 0; have hfz72_1 := blk_frozen BK199.out 1; have hfz72_2 := blk_frozen BK199.out 2; have hfz72_3 := blk_frozen BK199.out 3; have hfz72_4 := blk_frozen BK199.out 4; have hcz73_0 : w71.cell? ⟨gb198, 0, none⟩ = some (.int .i64 0) := (blk_cell BK198.out 0).trans rfl; have hcz73_1 : w71.cell? ⟨gb198, 1, none⟩ = some (.int .i64 0) := (blk_cell BK198.out 1).trans rfl; have hcz73_2 : w71.cell? ⟨gb198, 2, none⟩ = some (.int .i64 0) := (blk_cell BK198.out 2).trans rfl; have hcz73_3 : w71.cell? ⟨gb198, 3, none⟩ = some (.int .i64 0) := (blk_cell BK198.out 3).trans rfl; have hcz73_4 : w71.cell? ⟨gb198, 4, none⟩ = some (.int .i64 0) := (blk_cell BK198.out 4).trans rfl; have hfz73_0 := blk_frozen BK198.out 0; have hfz73_1 := blk_frozen BK198.out 1; have hfz73_2 := blk_frozen BK198.out 2; have hfz73_3 := blk_frozen BK198.out 3; have hfz73_4 := blk_frozen BK198.out 4))
                refine bodyPost_ret (results_ct rfl _ _ gb198 54 #[.int .i64 ((Int.tdiv a0 16777216) % 4294967296), .int .i64 x200001_3, .int .i64 x200002_11, .int .i64 x200003_15, .int .i64 (wrap64 (t209))] (0, 0) _ rfl (by (with_reducible repeat (first | refine blk_drewN ?_ _ | refine blk_drew ?_ | refine blk_alloc ?_ _)); refine blk_put (cs := #[.int .i64 ((Int.tdiv a0 16777216) % 4294967296), .int .i64 x200001_3, .int .i64 x200002_11, .int .i64 x200003_15, .int .i64 0]) ?_ 4 _ rfl; (with_reducible repeat (first | refine blk_drewN ?_ _ | refine blk_drew ?_ | refine blk_alloc ?_ _)); refine blk_put (cs := #[.int .i64 ((Int.tdiv a0 16777216) % 4294967296), .int .i64 x200001_3, .int .i64 x200002_11, .int .i64 0, .int .i64 0]) ?_ 3 _ rfl; (with_reducible repeat (first | refine blk_drewN ?_ _ | refine blk_drew ?_ | refine blk_alloc ?_ _)); refine blk_put (cs := #[.int .i64 ((Int.tdiv a0 16777216) % 4294967296), .int .i64 x200001_3, .int .i64 0, .int .i64 0, .int .i64 0]) ?_ 2 _ rfl; (with_reducible repeat (first | refine blk_drewN ?_ _ | refine blk_drew ?_ | refine blk_alloc ?_ _)); refine blk_put (cs := #[.int .i64 ((Int.tdiv a0 16777216) % 4294967296), .int .i64 0, .int .i64 0, .int .i64 0, .int .i64 0]) ?_ 1 _ rfl; (with_reducible repeat (first | refine blk_drewN ?_ _ | refine blk_drew ?_ | refine blk_alloc ?_ _)); refine blk_put (cs := #[.int .i64 0, .int .i64 0, .int .i64 0, .int .i64 0, .int .i64 0]) ?_ 0 _ rfl; (with_reducible repeat (first | refine blk_drewN ?_ _ | refine blk_drew ?_ | refine blk_alloc ?_ _)); exact BK198.out) Try.underlying54 rfl (by kernel_rfl)) rfl ?_
                exact ⟨by first | rfl | (simp [errW_none, errW_some] <;> rfl) | (simp [*, errW_none, errW_some] <;> rfl), by repeat (first | (with_reducible first | exact HB.out | apply below_alloc | apply pw_below_drewN | apply below_drew1 | refine below_set ?_ GE198.out | refine below_set ?_ GE199.out) | exact HB.out)⟩
               ·
                rw [if_neg c67] at H
                have c67b0 : (t210 == a0) = false := beq_eq_false_iff_ne.mpr c67
                have c67b1 : (t210 != a0) = true := bne_iff_ne.mpr c67
                simp only [Option.some.injEq, Prod.mk.injEq] at H
                obtain ⟨rfl, rfl, rfl, rfl, rfl, rfl⟩ := H
                go_wp2_with (first | ((with_reducible refine gate_callee (f := 44) rfl ?_); refine goesL_ (some 60) rfl rfl Try.func44 (by kernel_rfl) rfl #[.int .u32 a0, .int .i64 24] rfl (by (try simp only [List.map_toArray, List.map_cons, List.map_nil]); first | done | rfl | (simp only [List.length_drop, List.length_take]; rfl)) ?_; (with_reducible refine (pascalineref01_Sext.calls kj42 a0 24 t209 _ A64.out).mono ?_); rintro e w74 ⟨rfl, hb⟩; refine ⟨_, rfl, ?_⟩; have n0_ := Aside0.mk (blk_below (g := gb198) (o := .cells #[.int .i64 0, .int .i64 0, .int .i64 0, .int .i64 0, .int .i64 0] 54 (0, 0)) (by (with_reducible repeat (first | refine blk_drewN ?_ _ | refine blk_drew ?_ | refine blk_alloc ?_ _)); exact BK198.out) hb); have n1_ := Aside0.mk (blk_below (g := gb199) (o := .cells #[.int .i64 ((Int.tdiv a0 16777216) % 4294967296), .int .i64 x200001_3, .int .i64 x200002_11, .int .i64 x200003_15, .int .i64 0] 54 (0, 0)) (by (with_reducible repeat (first | refine blk_drewN ?_ _ | refine blk_drew ?_ | refine blk_alloc ?_ _)); exact BK199.out) hb); have n2_ := Aside0.mk (below_step (by repeat (first | (with_reducible first | exact HB.out | apply below_alloc | apply pw_below_drewN | apply below_drew1 | refine below_set ?_ GE198.out | refine below_set ?_ GE199.out) | exact HB.out)) hb); clear BK198; clear BK199; clear HB; have BK198 := n0_; have BK199 := n1_; have HB := n2_; clear n0_ n1_ n2_; (try clear hb); (try clear hb2); (try clear hk); (try clear hi); have hnb75 := NB199_198.out; have hnc75 := NB198_199.out; have hcz76_0 : w74.cell? ⟨gb199, 0, none⟩ = some (.int .i64 ((Int.tdiv a0 16777216) % 4294967296)) := (blk_cell BK199.out 0).trans rfl; have hcz76_1 : w74.cell? ⟨gb199, 1, none⟩ = some (.int .i64 x200001_3) := (blk_cell BK199.out 1).trans rfl; have hcz76_2 : w74.cell? ⟨gb199, 2, none⟩ = some (.int .i64 x200002_11) := (blk_cell BK199.out 2).trans rfl; have hcz76_3 : w74.cell? ⟨gb199, 3, none⟩ = some (.int .i64 x200003_15) := (blk_cell BK199.out 3).trans rfl; have hcz76_4 : w74.cell? ⟨gb199, 4, none⟩ = some (.int .i64 0) := (blk_cell BK199.out 4).trans rfl; have hfz76_0 := blk_frozen BK199.out 0; have hfz76_1 := blk_frozen BK199.out 1; have hfz76_2 := blk_frozen BK199.out 2; have hfz76_3 := blk_frozen BK199.out 3; have hfz76_4 := blk_frozen BK199.out 4) | ((with_reducible refine gate_callee (f := 45) rfl ?_); refine goesL_ (some 65) rfl rfl Try.func45 (by kernel_rfl) rfl #[.agg #[.int .i64 ((Int.tdiv a0 16777216) % 4294967296), .int .i64 x200001_3, .int .i64 x200002_11, .int .i64 x200003_15, .int .i64 (wrap64 (t209))]] rfl (by (try simp only [List.map_toArray, List.map_cons, List.map_nil]); first | done | rfl | (simp only [List.length_drop, List.length_take]; rfl)) ?_; (with_reducible refine (pascalineref02_Encode.calls kj42 ((Int.tdiv a0 16777216) % 4294967296) x200001_3 x200002_11 x200003_15 (wrap64 (t209)) t210 t211 _ A65.out).mono ?_); rintro e w77 ⟨rfl, hb⟩; refine ⟨_, rfl, ?_⟩; have n0_ := Aside0.mk (blk_below (g := gb198) (o := .cells #[.int .i64 0, .int .i64 0, .int .i64 0, .int .i64 0, .int .i64 0] 54 (0, 0)) (by (with_reducible repeat (first | refine blk_drewN ?_ _ | refine blk_drew ?_ | refine blk_alloc ?_ _)); refine blk_far ?_ NB198_199.out _; (with_reducible repeat (first | refine blk_drewN ?_ _ | refine blk_drew ?_ | refine blk_alloc ?_ _)); exact BK198.out) hb); have n1_ := Aside0.mk (blk_below (g := gb199) (o := .cells #[.int .i64 ((Int.tdiv a0 16777216) % 4294967296), .int .i64 x200001_3, .int .i64 x200002_11, .int .i64 x200003_15, .int .i64 (wrap64 (t209))] 54 (0, 0)) (by (with_reducible repeat (first | refine blk_drewN ?_ _ | refine blk_drew ?_ | refine blk_alloc ?_ _)); refine blk_put (cs := #[.int .i64 ((Int.tdiv a0 16777216) % 4294967296), .int .i64 x200001_3, .int .i64 x200002_11, .int .i64 x200003_15, .int .i64 0]) ?_ 4 _ rfl; (with_reducible repeat (first | refine blk_drewN ?_ _ | refine blk_drew ?_ | refine blk_alloc ?_ _)); exact BK199.out) hb); have n2_ := Aside0.mk (below_step (by repeat (first | (with_reducible first | exact HB.out | apply below_alloc | apply pw_below_drewN | apply below_drew1 | refine below_set ?_ GE198.out | refine below_set ?_ GE199.out) | exact HB.out)) hb); clear BK198; clear BK199; clear HB; have BK198 := n0_; have BK199 := n1_; have HB := n2_; clear n0_ n1_ n2_; (try clear hb); (try clear hb2); (try clear hk); (try clear hi); have hcz78_0 : w77.cell? ⟨gb198, 0, none⟩ = some (.int .i64 0) := (blk_cell BK198.out 0).trans rfl; have hcz78_1 : w77.cell? ⟨gb198, 1, none⟩ = some (.int .i64 0) := (blk_cell BK198.out 1).trans rfl; have hcz78_2 : w77.cell? ⟨gb198, 2, none⟩ = some (.int .i64 0) := (blk_cell BK198.out 2).trans rfl; have hcz78_3 : w77.cell? ⟨gb198, 3, none⟩ = some (.int .i64 0) := (blk_cell BK198.out 3).trans rfl; have hcz78_4 : w77.cell? ⟨gb198, 4, none⟩ = some (.int .i64 0) := (blk_cell BK198.out 4).trans rfl; have hfz78_0 := blk_frozen BK198.out 0; have hfz78_1 := blk_frozen BK198.out 1; have hfz78_2 := blk_frozen BK198.out 2; have hfz78_3 := blk_frozen BK198.out 3; have hfz78_4 := blk_frozen BK198.out 4))
                refine bodyPost_ret (results_ct rfl _ _ gb198 54 #[.int .i64 0, .int .i64 0, .int .i64 0, .int .i64 0, .int .i64 0] (0, 0) _ rfl (by (with_reducible repeat (first | refine blk_drewN ?_ _ | refine blk_drew ?_ | refine blk_alloc ?_ _)); refine blk_put (cs := #[.int .i64 0, .int .i64 0, .int .i64 0, .int .i64 0, .int .i64 0]) ?_ 4 _ rfl; (with_reducible repeat (first | refine blk_drewN ?_ _ | refine blk_drew ?_ | refine blk_alloc ?_ _)); refine blk_put (cs := #[.int .i64 0, .int .i64 0, .int .i64 0, .int .i64 0, .int .i64 0]) ?_ 3 _ rfl; (with_reducible repeat (first | refine blk_drewN ?_ _ | refine blk_drew ?_ | refine blk_alloc ?_ _)); refine blk_put (cs := #[.int .i64 0, .int .i64 0, .int .i64 0, .int .i64 0, .int .i64 0]) ?_ 2 _ rfl; (with_reducible repeat (first | refine blk_drewN ?_ _ | refine blk_drew ?_ | refine blk_alloc ?_ _)); refine blk_put (cs := #[.int .i64 0, .int .i64 0, .int .i64 0, .int .i64 0, .int .i64 0]) ?_ 1 _ rfl; (with_reducible repeat (first | refine blk_drewN ?_ _ | refine blk_drew ?_ | refine blk_alloc ?_ _)); refine blk_put (cs := #[.int .i64 0, .int .i64 0, .int .i64 0, .int .i64 0, .int .i64 0]) ?_ 0 _ rfl; (with_reducible repeat (first | refine blk_drewN ?_ _ | refine blk_drew ?_ | refine blk_alloc ?_ _)); exact BK198.out) Try.underlying54 rfl (by kernel_rfl)) rfl ?_
                exact ⟨by first | rfl | (simp [errW_none, errW_some] <;> rfl) | (simp [*, errW_none, errW_some] <;> rfl), by repeat (first | (with_reducible first | exact HB.out | apply below_alloc | apply pw_below_drewN | apply below_drew1 | refine below_set ?_ GE198.out | refine below_set ?_ GE199.out) | exact HB.out)⟩
              ·
               rw [if_neg c66] at H
               have c66b0 : (t211 == 0) = false := beq_eq_false_iff_ne.mpr c66
               have c66b1 : (t211 != 0) = true := bne_iff_ne.mpr c66
               simp only [Option.some.injEq, Prod.mk.injEq] at H
               obtain ⟨rfl, rfl, rfl, rfl, rfl, rfl⟩ := H
               go_wp2_with (first | ((with_reducible refine gate_callee (f := 44) rfl ?_); refine goesL_ (some 60) rfl rfl Try.func44 (by kernel_rfl) rfl #[.int .u32 a0, .int .i64 24] rfl (by (try simp only [List.map_toArray, List.map_cons, List.map_nil]); first | done | rfl | (simp only [List.length_drop, List.length_take]; rfl)) ?_; (with_reducible refine (pascalineref01_Sext.calls kj42 a0 24 t209 _ A64.out).mono ?_); rintro e w79 ⟨rfl, hb⟩; refine ⟨_, rfl, ?_⟩; have n0_ := Aside0.mk (blk_below (g := gb198) (o := .cells #[.int .i64 0, .int .i64 0, .int .i64 0, .int .i64 0, .int .i64 0] 54 (0, 0)) (by (with_reducible repeat (first | refine blk_drewN ?_ _ | refine blk_drew ?_ | refine blk_alloc ?_ _)); exact BK198.out) hb); have n1_ := Aside0.mk (blk_below (g := gb199) (o := .cells #[.int .i64 ((Int.tdiv a0 16777216) % 4294967296), .int .i64 x200001_3, .int .i64 x200002_11, .int .i64 x200003_15, .int .i64 0] 54 (0, 0)) (by (with_reducible repeat (first | refine blk_drewN ?_ _ | refine blk_drew ?_ | refine blk_alloc ?_ _)); exact BK199.out) hb); have n2_ := Aside0.mk (below_step (by repeat (first | (with_reducible first | exact HB.out | apply below_alloc | apply pw_below_drewN | apply below_drew1 | refine below_set ?_ GE198.out | refine below_set ?_ GE199.out) | exact HB.out)) hb); clear BK198; clear BK199; clear HB; have BK198 := n0_; have BK199 := n1_; have HB := n2_; clear n0_ n1_ n2_; (try clear hb); (try clear hb2); (try clear hk); (try clear hi); have hnb80 := NB199_198.out; have hnc80 := NB198_199.out; have hcz81_0 : w79.cell? ⟨gb199, 0, none⟩ = some (.int .i64 ((Int.tdiv a0 16777216) % 4294967296)) := (blk_cell BK199.out 0).trans rfl; have hcz81_1 : w79.cell? ⟨gb199, 1, none⟩ = some (.int .i64 x200001_3) := (blk_cell BK199.out 1).trans rfl; have hcz81_2 : w79.cell? ⟨gb199, 2, none⟩ = some (.int .i64 x200002_11) := (blk_cell BK199.out 2).trans rfl; have hcz81_3 : w79.cell? ⟨gb199, 3, none⟩ = some (.int .i64 x200003_15) := (blk_cell BK199.out 3).trans rfl; have hcz81_4 : w79.cell? ⟨gb199, 4, none⟩ = some (.int .i64 0) := (blk_cell BK199.out 4).trans rfl; have hfz81_0 := blk_frozen BK199.out 0; have hfz81_1 := blk_frozen BK199.out 1; have hfz81_2 := blk_frozen BK199.out 2; have hfz81_3 := blk_frozen BK199.out 3; have hfz81_4 := blk_frozen BK199.out 4) | ((with_reducible refine gate_callee (f := 45) rfl ?_); refine goesL_ (some 65) rfl rfl Try.func45 (by kernel_rfl) rfl #[.agg #[.int .i64 ((Int.tdiv a0 16777216) % 4294967296), .int .i64 x200001_3, .int .i64 x200002_11, .int .i64 x200003_15, .int .i64 (wrap64 (t209))]] rfl (by (try simp only [List.map_toArray, List.map_cons, List.map_nil]); first | done | rfl | (simp only [List.length_drop, List.length_take]; rfl)) ?_; (with_reducible refine (pascalineref02_Encode.calls kj42 ((Int.tdiv a0 16777216) % 4294967296) x200001_3 x200002_11 x200003_15 (wrap64 (t209)) t210 t211 _ A65.out).mono ?_); rintro e w82 ⟨rfl, hb⟩; refine ⟨_, rfl, ?_⟩; have n0_ := Aside0.mk (blk_below (g := gb198) (o := .cells #[.int .i64 0, .int .i64 0, .int .i64 0, .int .i64 0, .int .i64 0] 54 (0, 0)) (by (with_reducible repeat (first | refine blk_drewN ?_ _ | refine blk_drew ?_ | refine blk_alloc ?_ _)); refine blk_far ?_ NB198_199.out _; (with_reducible repeat (first | refine blk_drewN ?_ _ | refine blk_drew ?_ | refine blk_alloc ?_ _)); exact BK198.out) hb); have n1_ := Aside0.mk (blk_below (g := gb199) (o := .cells #[.int .i64 ((Int.tdiv a0 16777216) % 4294967296), .int .i64 x200001_3, .int .i64 x200002_11, .int .i64 x200003_15, .int .i64 (wrap64 (t209))] 54 (0, 0)) (by (with_reducible repeat (first | refine blk_drewN ?_ _ | refine blk_drew ?_ | refine blk_alloc ?_ _)); refine blk_put (cs := #[.int .i64 ((Int.tdiv a0 16777216) % 4294967296), .int .i64 x200001_3, .int .i64 x200002_11, .int .i64 x200003_15, .int .i64 0]) ?_ 4 _ rfl; (with_reducible repeat (first | refine blk_drewN ?_ _ | refine blk_drew ?_ | refine blk_alloc ?_ _)); exact BK199.out) hb); have n2_ := Aside0.mk (below_step (by repeat (first | (with_reducible first | exact HB.out | apply below_alloc | apply pw_below_drewN | apply below_drew1 | refine below_set ?_ GE198.out | refine below_set ?_ GE199.out) | exact HB.out)) hb); clear BK198; clear BK199; clear HB; have BK198 := n0_; have BK199 := n1_; have HB := n2_; clear n0_ n1_ n2_; (try clear hb); (try clear hb2); (try clear hk); (try clear hi); have hcz83_0 : w82.cell? ⟨gb198, 0, none⟩ = some (.int .i64 0) := (blk_cell BK198.out 0).trans rfl; have hcz83_1 : w82.cell? ⟨gb198, 1, none⟩ = some (.int .i64 0) := (blk_cell BK198.out 1).trans rfl; have hcz83_2 : w82.cell? ⟨gb198, 2, none⟩ = some (.int .i64 0) := (blk_cell BK198.out 2).trans rfl; have hcz83_3 : w82.cell? ⟨gb198, 3, none⟩ = some (.int .i64 0) := (blk_cell BK198.out 3).trans rfl; have hcz83_4 : w82.cell? ⟨gb198, 4, none⟩ = some (.int .i64 0) := (blk_cell BK198.out 4).trans rfl; have hfz83_0 := blk_frozen BK198.out 0; have hfz83_1 := blk_frozen BK198.out 1; have hfz83_2 := blk_frozen BK198.out 2; have hfz83_3 := blk_frozen BK198.out 3; have hfz83_4 := blk_frozen BK198.out 4))
               refine bodyPost_ret (results_ct rfl _ _ gb198 54 #[.int .i64 0, .int .i64 0, .int .i64 0, .int .i64 0, .int .i64 0] (0, 0) _ rfl (by (with_reducible repeat (first | refine blk_drewN ?_ _ | refine blk_drew ?_ | refine blk_alloc ?_ _)); refine blk_put (cs := #[.int .i64 0, .int .i64 0, .int .i64 0, .int .i64 0, .int .i64 0]) ?_ 4 _ rfl; (with_reducible repeat (first | refine blk_drewN ?_ _ | refine blk_drew ?_ | refine blk_alloc ?_ _)); refine blk_put (cs := #[.int .i64 0, .int .i64 0, .int .i64 0, .int .i64 0, .int .i64 0]) ?_ 3 _ rfl; (with_reducible repeat (first | refine blk_drewN ?_ _ | refine blk_drew ?_ | refine blk_alloc ?_ _)); refine blk_put (cs := #[.int .i64 0, .int .i64 0, .int .i64 0, .int .i64 0, .int .i64 0]) ?_ 2 _ rfl; (with_reducible repeat (first | refine blk_drewN ?_ _ | refine blk_drew ?_ | refine blk_alloc ?_ _)); refine blk_put (cs := #[.int .i64 0, .int .i64 0, .int .i64 0, .int .i64 0, .int .i64 0]) ?_ 1 _ rfl; (with_reducible repeat (first | refine blk_drewN ?_ _ | refine blk_drew ?_ | refine blk_alloc ?_ _)); refine blk_put (cs := #[.int .i64 0, .int .i64 0, .int .i64 0, .int .i64 0, .int .i64 0]) ?_ 0 _ rfl; (with_reducible repeat (first | refine blk_drewN ?_ _ | refine blk_drew ?_ | refine blk_alloc ?_ _)); exact BK198.out) Try.underlying54 rfl (by kernel_rfl)) rfl ?_
               exact ⟨by first | rfl | (simp [errW_none, errW_some] <;> rfl) | (simp [*, errW_none, errW_some] <;> rfl), by repeat (first | (with_reducible first | exact HB.out | apply below_alloc | apply pw_below_drewN | apply below_drew1 | refine below_set ?_ GE198.out | refine below_set ?_ GE199.out) | exact HB.out)⟩
             ·
              rw [if_neg c63] at H
              have c63b0 : (t200 == 7) = false := beq_eq_false_iff_ne.mpr c63
              have c63b1 : (t200 != 7) = true := bne_iff_ne.mpr c63
              replace H := Option.bind_eq_some_iff.mp H
              obtain ⟨⟨t212, t213⟩, A840, H⟩ := H
              replace H : (if t213 = 0 then (if t212 = a0 then (some (((Int.tdiv a0 16777216) % 4294967296), x200001_3, x200002_11, x200003_15, 0, 0)) else (some (0, 0, 0, 0, 0, 21))) else (some (0, 0, 0, 0, 0, 21))) = some (r1, r2, r3, r4, r5, r6) := H
              have A84 := Aside0.mk A840
              clear A840
              by_cases c85 : t213 = 0
              ·
               rw [if_pos c85] at H
               have c85b0 : (t213 == 0) = true := beq_iff_eq.mpr c85
               have c85b1 : (t213 != 0) = false := bne_eq_false_iff_eq.mpr c85
               clear c85
               by_cases c86 : t212 = a0
               ·
                rw [if_pos c86] at H
                have c86b0 : (t212 == a0) = true := beq_iff_eq.mpr c86
                have c86b1 : (t212 != a0) = false := bne_eq_false_iff_eq.mpr c86
                clear c86
                simp only [Option.some.injEq, Prod.mk.injEq] at H
                obtain ⟨rfl, rfl, rfl, rfl, rfl, rfl⟩ := H
                have hnb87 := NB199_198.out
                have hnc87 := NB198_199.out
                have hcz88_0 : wc.cell? ⟨gb199, 0, none⟩ = some (.int .i64 ((Int.tdiv a0 16777216) % 4294967296)) := (blk_cell BK199.out 0).trans rfl
                have hcz88_1 : wc.cell? ⟨gb199, 1, none⟩ = some (.int .i64 x200001_3) := (blk_cell BK199.out 1).trans rfl
                have hcz88_2 : wc.cell? ⟨gb199, 2, none⟩ = some (.int .i64 x200002_11) := (blk_cell BK199.out 2).trans rfl
                have hcz88_3 : wc.cell? ⟨gb199, 3, none⟩ = some (.int .i64 x200003_15) := (blk_cell BK199.out 3).trans rfl
                have hcz88_4 : wc.cell? ⟨gb199, 4, none⟩ = some (.int .i64 0) := (blk_cell BK199.out 4).trans rfl
                have hfz88_0 := blk_frozen BK199.out 0
                have hfz88_1 := blk_frozen BK199.out 1
                have hfz88_2 := blk_frozen BK199.out 2
                have hfz88_3 := blk_frozen BK199.out 3
                have hfz88_4 := blk_frozen BK199.out 4
                go_wp2_with (first | ((with_reducible refine gate_callee (f := 45) rfl ?_); refine goesL_ (some 65) rfl rfl Try.func45 (by kernel_rfl) rfl #[.agg #[.int .i64 ((Int.tdiv a0 16777216) % 4294967296), .int .i64 x200001_3, .int .i64 x200002_11, .int .i64 x200003_15, .int .i64 0]] rfl (by (try simp only [List.map_toArray, List.map_cons, List.map_nil]); first | done | rfl | (simp only [List.length_drop, List.length_take]; rfl)) ?_; (with_reducible refine (pascalineref02_Encode.calls kj42 ((Int.tdiv a0 16777216) % 4294967296) x200001_3 x200002_11 x200003_15 0 t212 t213 _ A84.out).mono ?_); rintro e w89 ⟨rfl, hb⟩; refine ⟨_, rfl, ?_⟩; have n0_ := Aside0.mk (blk_below (g := gb198) (o := .cells #[.int .i64 0, .int .i64 0, .int .i64 0, .int .i64 0, .int .i64 0] 54 (0, 0)) (by (with_reducible repeat (first | refine blk_drewN ?_ _ | refine blk_drew ?_ | refine blk_alloc ?_ _)); exact BK198.out) hb); have n1_ := Aside0.mk (blk_below (g := gb199) (o := .cells #[.int .i64 ((Int.tdiv a0 16777216) % 4294967296), .int .i64 x200001_3, .int .i64 x200002_11, .int .i64 x200003_15, .int .i64 0] 54 (0, 0)) (by (with_reducible repeat (first | refine blk_drewN ?_ _ | refine blk_drew ?_ | refine blk_alloc ?_ _)); exact BK199.out) hb); have n2_ := Aside0.mk (below_step (by repeat (first | (with_reducible first | exact HB.out | apply below_alloc | apply pw_below_drewN | apply below_drew1 | refine below_set ?_ GE198.out | refine below_set ?_ GE199.out) | exact HB.out)) hb); clear BK198; clear BK199; clear HB; have BK198 := n0_; have BK199 := n1_; have HB := n2_; clear n0_ n1_ n2_; (try clear hb); (try clear hb2); (try clear hk); (try clear hi); have hcz90_0 : w89.cell? ⟨gb199, 0, none⟩ = some (.int .i64 ((Int.tdiv a0 16777216) % 4294967296)) := (blk_cell BK199.out 0).trans rfl; have hcz90_1 : w89.cell? ⟨gb199, 1, none⟩ = some (.int .i64 x200001_3) := (blk_cell BK199.out 1).trans rfl; have hcz90_2 : w89.cell? ⟨gb199, 2, none⟩ = some (.int .i64 x200002_11) := (blk_cell BK199.out 2).trans rfl; have hcz90_3 : w89.cell? ⟨gb199, 3, none⟩ = some (.int .i64 x200003_15) := (blk_cell BK199.out 3).trans rfl; have hcz90_4 : w89.cell? ⟨gb199, 4, none⟩ = some (.int .i64 0) := (blk_cell BK199.out 4).trans rfl; have hfz90_0 := blk_frozen BK199.out 0; have hfz90_1 := blk_frozen BK199.out 1; have hfz90_2 := blk_frozen BK199.out 2; have hfz90_3 := blk_frozen BK199.out 3; have hfz90_4 := blk_frozen BK199.out 4; have hcz91_0 : w89.cell? ⟨gb198, 0, none⟩ = some (.int .i64 0) := (blk_cell BK198.out 0).trans rfl; have hcz91_1 : w89.cell? ⟨gb198, 1, none⟩ = some (.int .i64 0) := (blk_cell BK198.out 1).trans rfl; have hcz91_2 : w89.cell? ⟨gb198, 2, none⟩ = some (.int .i64 0) := (blk_cell BK198.out 2).trans rfl; have hcz91_3 : w89.cell? ⟨gb198, 3, none⟩ = some (.int .i64 0) := (blk_cell BK198.out 3).trans rfl; have hcz91_4 : w89.cell? ⟨gb198, 4, none⟩ = some (.int .i64 0) := (blk_cell BK198.out 4).trans rfl; have hfz91_0 := blk_frozen BK198.out 0; have hfz91_1 := blk_frozen BK198.out 1; have hfz91_2 := blk_frozen BK198.out 2; have hfz91_3 := blk_frozen BK198.out 3; have hfz91_4 := blk_frozen BK198.out 4))
                refine bodyPost_ret (results_ct rfl _ _ gb198 54 #[.int .i64 ((Int.tdiv a0 16777216) % 4294967296), .int .i64 x200001_3, .int .i64 x200002_11, .int .i64 x200003_15, .int .i64 0] (0, 0) _ rfl (by (with_reducible repeat (first | refine blk_drewN ?_ _ | refine blk_drew ?_ | refine blk_alloc ?_ _)); refine blk_put (cs := #[.int .i64 ((Int.tdiv a0 16777216) % 4294967296), .int .i64 x200001_3, .int .i64 x200002_11, .int .i64 x200003_15, .int .i64 0]) ?_ 4 _ rfl; (with_reducible repeat (first | refine blk_drewN ?_ _ | refine blk_drew ?_ | refine blk_alloc ?_ _)); refine blk_put (cs := #[.int .i64 ((Int.tdiv a0 16777216) % 4294967296), .int .i64 x200001_3, .int .i64 x200002_11, .int .i64 0, .int .i64 0]) ?_ 3 _ rfl; (with_reducible repeat (first | refine blk_drewN ?_ _ | refine blk_drew ?_ | refine blk_alloc ?_ _)); refine blk_put (cs := #[.int .i64 ((Int.tdiv a0 16777216) % 4294967296), .int .i64 x200001_3, .int .i64 0, .int .i64 0, .int .i64 0]) ?_ 2 _ rfl; (with_reducible repeat (first | refine blk_drewN ?_ _ | refine blk_drew ?_ | refine blk_alloc ?_ _)); refine blk_put (cs := #[.int .i64 ((Int.tdiv a0 16777216) % 4294967296), .int .i64 0, .int .i64 0, .int .i64 0, .int .i64 0]) ?_ 1 _ rfl; (with_reducible repeat (first | refine blk_drewN ?_ _ | refine blk_drew ?_ | refine blk_alloc ?_ _)); refine blk_put (cs := #[.int .i64 0, .int .i64 0, .int .i64 0, .int .i64 0, .int .i64 0]) ?_ 0 _ rfl; (with_reducible repeat (first | refine blk_drewN ?_ _ | refine blk_drew ?_ | refine blk_alloc ?_ _)); exact BK198.out) Try.underlying54 rfl (by kernel_rfl)) rfl ?_
                exact ⟨by first | rfl | (simp [errW_none, errW_some] <;> rfl) | (simp [*, errW_none, errW_some] <;> rfl), by repeat (first | (with_reducible first | exact HB.out | apply below_alloc | apply pw_below_drewN | apply below_drew1 | refine below_set ?_ GE198.out | refine below_set ?_ GE199.out) | exact HB.out)⟩
               ·
                rw [if_neg c86] at H
                have c86b0 : (t212 == a0) = false := beq_eq_false_iff_ne.mpr c86
                have c86b1 : (t212 != a0) = true := bne_iff_ne.mpr c86
                simp only [Option.some.injEq, Prod.mk.injEq] at H
                obtain ⟨rfl, rfl, rfl, rfl, rfl, rfl⟩ := H
                have hnb92 := NB199_198.out
                have hnc92 := NB198_199.out
                have hcz93_0 : wc.cell? ⟨gb199, 0, none⟩ = some (.int .i64 ((Int.tdiv a0 16777216) % 4294967296)) := (blk_cell BK199.out 0).trans rfl
                have hcz93_1 : wc.cell? ⟨gb199, 1, none⟩ = some (.int .i64 x200001_3) := (blk_cell BK199.out 1).trans rfl
                have hcz93_2 : wc.cell? ⟨gb199, 2, none⟩ = some (.int .i64 x200002_11) := (blk_cell BK199.out 2).trans rfl
                have hcz93_3 : wc.cell? ⟨gb199, 3, none⟩ = some (.int .i64 x200003_15) := (blk_cell BK199.out 3).trans rfl
                have hcz93_4 : wc.cell? ⟨gb199, 4, none⟩ = some (.int .i64 0) := (blk_cell BK199.out 4).trans rfl
                have hfz93_0 := blk_frozen BK199.out 0
                have hfz93_1 := blk_frozen BK199.out 1
                have hfz93_2 := blk_frozen BK199.out 2
                have hfz93_3 := blk_frozen BK199.out 3
                have hfz93_4 := blk_frozen BK199.out 4
                go_wp2_with (first | ((with_reducible refine gate_callee (f := 45) rfl ?_); refine goesL_ (some 65) rfl rfl Try.func45 (by kernel_rfl) rfl #[.agg #[.int .i64 ((Int.tdiv a0 16777216) % 4294967296), .int .i64 x200001_3, .int .i64 x200002_11, .int .i64 x200003_15, .int .i64 0]] rfl (by (try simp only [List.map_toArray, List.map_cons, List.map_nil]); first | done | rfl | (simp only [List.length_drop, List.length_take]; rfl)) ?_; (with_reducible refine (pascalineref02_Encode.calls kj42 ((Int.tdiv a0 16777216) % 4294967296) x200001_3 x200002_11 x200003_15 0 t212 t213 _ A84.out).mono ?_); rintro e w94 ⟨rfl, hb⟩; refine ⟨_, rfl, ?_⟩; have n0_ := Aside0.mk (blk_below (g := gb198) (o := .cells #[.int .i64 0, .int .i64 0, .int .i64 0, .int .i64 0, .int .i64 0] 54 (0, 0)) (by (with_reducible repeat (first | refine blk_drewN ?_ _ | refine blk_drew ?_ | refine blk_alloc ?_ _)); exact BK198.out) hb); have n1_ := Aside0.mk (blk_below (g := gb199) (o := .cells #[.int .i64 ((Int.tdiv a0 16777216) % 4294967296), .int .i64 x200001_3, .int .i64 x200002_11, .int .i64 x200003_15, .int .i64 0] 54 (0, 0)) (by (with_reducible repeat (first | refine blk_drewN ?_ _ | refine blk_drew ?_ | refine blk_alloc ?_ _)); exact BK199.out) hb); have n2_ := Aside0.mk (below_step (by repeat (first | (with_reducible first | exact HB.out | apply below_alloc | apply pw_below_drewN | apply below_drew1 | refine below_set ?_ GE198.out | refine below_set ?_ GE199.out) | exact HB.out)) hb); clear BK198; clear BK199; clear HB; have BK198 := n0_; have BK199 := n1_; have HB := n2_; clear n0_ n1_ n2_; (try clear hb); (try clear hb2); (try clear hk); (try clear hi); have hcz95_0 : w94.cell? ⟨gb198, 0, none⟩ = some (.int .i64 0) := (blk_cell BK198.out 0).trans rfl; have hcz95_1 : w94.cell? ⟨gb198, 1, none⟩ = some (.int .i64 0) := (blk_cell BK198.out 1).trans rfl; have hcz95_2 : w94.cell? ⟨gb198, 2, none⟩ = some (.int .i64 0) := (blk_cell BK198.out 2).trans rfl; have hcz95_3 : w94.cell? ⟨gb198, 3, none⟩ = some (.int .i64 0) := (blk_cell BK198.out 3).trans rfl; have hcz95_4 : w94.cell? ⟨gb198, 4, none⟩ = some (.int .i64 0) := (blk_cell BK198.out 4).trans rfl; have hfz95_0 := blk_frozen BK198.out 0; have hfz95_1 := blk_frozen BK198.out 1; have hfz95_2 := blk_frozen BK198.out 2; have hfz95_3 := blk_frozen BK198.out 3; have hfz95_4 := blk_frozen BK198.out 4))
                refine bodyPost_ret (results_ct rfl _ _ gb198 54 #[.int .i64 0, .int .i64 0, .int .i64 0, .int .i64 0, .int .i64 0] (0, 0) _ rfl (by (with_reducible repeat (first | refine blk_drewN ?_ _ | refine blk_drew ?_ | refine blk_alloc ?_ _)); refine blk_put (cs := #[.int .i64 0, .int .i64 0, .int .i64 0, .int .i64 0, .int .i64 0]) ?_ 4 _ rfl; (with_reducible repeat (first | refine blk_drewN ?_ _ | refine blk_drew ?_ | refine blk_alloc ?_ _)); refine blk_put (cs := #[.int .i64 0, .int .i64 0, .int .i64 0, .int .i64 0, .int .i64 0]) ?_ 3 _ rfl; (with_reducible repeat (first | refine blk_drewN ?_ _ | refine blk_drew ?_ | refine blk_alloc ?_ _)); refine blk_put (cs := #[.int .i64 0, .int .i64 0, .int .i64 0, .int .i64 0, .int .i64 0]) ?_ 2 _ rfl; (with_reducible repeat (first | refine blk_drewN ?_ _ | refine blk_drew ?_ | refine blk_alloc ?_ _)); refine blk_put (cs := #[.int .i64 0, .int .i64 0, .int .i64 0, .int .i64 0, .int .i64 0]) ?_ 1 _ rfl; (with_reducible repeat (first | refine blk_drewN ?_ _ | refine blk_drew ?_ | refine blk_alloc ?_ _)); refine blk_put (cs := #[.int .i64 0, .int .i64 0, .int .i64 0, .int .i64 0, .int .i64 0]) ?_ 0 _ rfl; (with_reducible repeat (first | refine blk_drewN ?_ _ | refine blk_drew ?_ | refine blk_alloc ?_ _)); exact BK198.out) Try.underlying54 rfl (by kernel_rfl)) rfl ?_
                exact ⟨by first | rfl | (simp [errW_none, errW_some] <;> rfl) | (simp [*, errW_none, errW_some] <;> rfl), by repeat (first | (with_reducible first | exact HB.out | apply below_alloc | apply pw_below_drewN | apply below_drew1 | refine below_set ?_ GE198.out | refine below_set ?_ GE199.out) | exact HB.out)⟩
              ·
               rw [if_neg c85] at H
               have c85b0 : (t213 == 0) = false := beq_eq_false_iff_ne.mpr c85
               have c85b1 : (t213 != 0) = true := bne_iff_ne.mpr c85
               simp only [Option.some.injEq, Prod.mk.injEq] at H
               obtain ⟨rfl, rfl, rfl, rfl, rfl, rfl⟩ := H
               have hnb96 := NB199_198.out
               have hnc96 := NB198_199.out
               have hcz97_0 : wc.cell? ⟨gb199, 0, none⟩ = some (.int .i64 ((Int.tdiv a0 16777216) % 4294967296)) := (blk_cell BK199.out 0).trans rfl
               have hcz97_1 : wc.cell? ⟨gb199, 1, none⟩ = some (.int .i64 x200001_3) := (blk_cell BK199.out 1).trans rfl
               have hcz97_2 : wc.cell? ⟨gb199, 2, none⟩ = some (.int .i64 x200002_11) := (blk_cell BK199.out 2).trans rfl
               have hcz97_3 : wc.cell? ⟨gb199, 3, none⟩ = some (.int .i64 x200003_15) := (blk_cell BK199.out 3).trans rfl
               have hcz97_4 : wc.cell? ⟨gb199, 4, none⟩ = some (.int .i64 0) := (blk_cell BK199.out 4).trans rfl
               have hfz97_0 := blk_frozen BK199.out 0
               have hfz97_1 := blk_frozen BK199.out 1
               have hfz97_2 := blk_frozen BK199.out 2
               have hfz97_3 := blk_frozen BK199.out 3
               have hfz97_4 := blk_frozen BK199.out 4
               go_wp2_with (first | ((with_reducible refine gate_callee (f := 45) rfl ?_); refine goesL_ (some 65) rfl rfl Try.func45 (by kernel_rfl) rfl #[.agg #[.int .i64 ((Int.tdiv a0 16777216) % 4294967296), .int .i64 x200001_3, .int .i64 x200002_11, .int .i64 x200003_15, .int .i64 0]] rfl (by (try simp only [List.map_toArray, List.map_cons, List.map_nil]); first | done | rfl | (simp only [List.length_drop, List.length_take]; rfl)) ?_; (with_reducible refine (pascalineref02_Encode.calls kj42 ((Int.tdiv a0 16777216) % 4294967296) x200001_3 x200002_11 x200003_15 0 t212 t213 _ A84.out).mono ?_); rintro e w98 ⟨rfl, hb⟩; refine ⟨_, rfl, ?_⟩; have n0_ := Aside0.mk (blk_below (g := gb198) (o := .cells #[.int .i64 0, .int .i64 0, .int .i64 0, .int .i64 0, .int .i64 0] 54 (0, 0)) (by (with_reducible repeat (first | refine blk_drewN ?_ _ | refine blk_drew ?_ | refine blk_alloc ?_ _)); exact BK198.out) hb); have n1_ := Aside0.mk (blk_below (g := gb199) (o := .cells #[.int .i64 ((Int.tdiv a0 16777216) % 4294967296), .int .i64 x200001_3, .int .i64 x200002_11, .int .i64 x200003_15, .int .i64 0] 54 (0, 0)) (by (with_reducible repeat (first | refine blk_drewN ?_ _ | refine blk_drew ?_ | refine blk_alloc ?_ _)); exact BK199.out) hb); have n2_ := Aside0.mk (below_step (by repeat (first | (with_reducible first | exact HB.out | apply below_alloc | apply pw_below_drewN | apply below_drew1 | refine below_set ?_ GE198.out | refine below_set ?_ GE199.out) | exact HB.out)) hb); clear BK198; clear BK199; clear HB; have BK198 := n0_; have BK199 := n1_; have HB := n2_; clear n0_ n1_ n2_; (try clear hb); (try clear hb2); (try clear hk); (try clear hi); have hcz99_0 : w98.cell? ⟨gb198, 0, none⟩ = some (.int .i64 0) := (blk_cell BK198.out 0).trans rfl; have hcz99_1 : w98.cell? ⟨gb198, 1, none⟩ = some (.int .i64 0) := (blk_cell BK198.out 1).trans rfl; have hcz99_2 : w98.cell? ⟨gb198, 2, none⟩ = some (.int .i64 0) := (blk_cell BK198.out 2).trans rfl; have hcz99_3 : w98.cell? ⟨gb198, 3, none⟩ = some (.int .i64 0) := (blk_cell BK198.out 3).trans rfl; have hcz99_4 : w98.cell? ⟨gb198, 4, none⟩ = some (.int .i64 0) := (blk_cell BK198.out 4).trans rfl; have hfz99_0 := blk_frozen BK198.out 0; have hfz99_1 := blk_frozen BK198.out 1; have hfz99_2 := blk_frozen BK198.out 2; have hfz99_3 := blk_frozen BK198.out 3; have hfz99_4 := blk_frozen BK198.out 4))
               refine bodyPost_ret (results_ct rfl _ _ gb198 54 #[.int .i64 0, .int .i64 0, .int .i64 0, .int .i64 0, .int .i64 0] (0, 0) _ rfl (by (with_reducible repeat (first | refine blk_drewN ?_ _ | refine blk_drew ?_ | refine blk_alloc ?_ _)); refine blk_put (cs := #[.int .i64 0, .int .i64 0, .int .i64 0, .int .i64 0, .int .i64 0]) ?_ 4 _ rfl; (with_reducible repeat (first | refine blk_drewN ?_ _ | refine blk_drew ?_ | refine blk_alloc ?_ _)); refine blk_put (cs := #[.int .i64 0, .int .i64 0, .int .i64 0, .int .i64 0, .int .i64 0]) ?_ 3 _ rfl; (with_reducible repeat (first | refine blk_drewN ?_ _ | refine blk_drew ?_ | refine blk_alloc ?_ _)); refine blk_put (cs := #[.int .i64 0, .int .i64 0, .int .i64 0, .int .i64 0, .int .i64 0]) ?_ 2 _ rfl; (with_reducible repeat (first | refine blk_drewN ?_ _ | refine blk_drew ?_ | refine blk_alloc ?_ _)); refine blk_put (cs := #[.int .i64 0, .int .i64 0, .int .i64 0, .int .i64 0, .int .i64 0]) ?_ 1 _ rfl; (with_reducible repeat (first | refine blk_drewN ?_ _ | refine blk_drew ?_ | refine blk_alloc ?_ _)); refine blk_put (cs := #[.int .i64 0, .int .i64 0, .int .i64 0, .int .i64 0, .int .i64 0]) ?_ 0 _ rfl; (with_reducible repeat (first | refine blk_drewN ?_ _ | refine blk_drew ?_ | refine blk_alloc ?_ _)); exact BK198.out) Try.underlying54 rfl (by kernel_rfl)) rfl ?_
               exact ⟨by first | rfl | (simp [errW_none, errW_some] <;> rfl) | (simp [*, errW_none, errW_some] <;> rfl), by repeat (first | (with_reducible first | exact HB.out | apply below_alloc | apply pw_below_drewN | apply below_drew1 | refine below_set ?_ GE198.out | refine below_set ?_ GE199.out) | exact HB.out)⟩

end Go.Proofs.Ytfagpgpeiomnpaa.P

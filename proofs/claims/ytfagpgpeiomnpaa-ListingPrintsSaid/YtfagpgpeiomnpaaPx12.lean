/- Printed parts. -/
import Derived.Test.YtfagpgpeiomnpaaPx0
import Derived.Test.YtfagpgpeiomnpaaCCf
import Derived.Test.YtfagpgpeiomnpaaPx1
namespace Go.Proofs.Ytfagpgpeiomnpaa.P
open Go.RowKit Go.Proofs.YtfagpgpeiomnpaaW.PrintWords Go.Proofs.YtfagpgpeiomnpaaW.PrintLast Go.Proofs.YtfagpgpeiomnpaaW.PrintMore
attribute [local go_sem] max2_int min2_int max_two min_two max_three min_three max_four min_four   -- for this text's walks alone
set_option linter.unusedVariables false
set_option linter.unusedSimpArgs false

/-! ### instr_Decode: function 20 -/
mutual
def instr_Decode.j0 : Nat → Int → Int → Int → Int → Int → Int → Int → Option (Int × Int × Int × Int × Int × Int)
 | 0, _, _, _, _, _, _, _ => none
 | k + 1, x0, x5, x118000, x118001, x118002, x118003, x118004 => if x5 = 1 then (instr_Decode.j1 k x0 x5 (x5 == 1) x118000 x118001 x118002 x118003 x118004) else (instr_Decode.j1 k x0 x5 (x5 == 3) x118000 x118001 x118002 x118003 x118004)
def instr_Decode.j1 : Nat → Int → Int → Bool → Int → Int → Int → Int → Int → Option (Int × Int × Int × Int × Int × Int)
 | 0, _, _, _, _, _, _, _, _ => none
 | k + 1, x0, x27, x28, x118000, x118001, x118002, x118003, x118004 => if x28 = true then ((word_Sext.f x0 16).bind fun t119 => ((instr_Encode.f k x118000 x118001 x118002 x118003 (wrap64 (t119))).bind fun bt120 => (if bt120.2 = 0 then (if bt120.1 = x0 then (some (x118000, x118001, x118002, x118003, wrap64 (t119), 0)) else (some (0, 0, 0, 0, 0, 21))) else (some (0, 0, 0, 0, 0, 21))))) else (if x27 = 2 then (instr_Decode.j2 k x0 x27 (x27 == 2) x118000 x118001 x118002 x118003 x118004) else (if x27 = 4 then (instr_Decode.j2 k x0 x27 (x27 == 4) x118000 x118001 x118002 x118003 x118004) else (instr_Decode.j2 k x0 x27 (x27 == 8) x118000 x118001 x118002 x118003 x118004)))
def instr_Decode.j2 : Nat → Int → Int → Bool → Int → Int → Int → Int → Int → Option (Int × Int × Int × Int × Int × Int)
 | 0, _, _, _, _, _, _, _, _ => none
 | k + 1, x0, x27, x35, x118000, x118001, x118002, x118003, x118004 => if x35 = true then ((instr_Encode.f k x118000 x118001 x118002 x118003 (wrap64 (Go.bits .and .u32 x0 65535))).bind fun bt122 => (if bt122.2 = 0 then (if bt122.1 = x0 then (some (x118000, x118001, x118002, x118003, wrap64 (Go.bits .and .u32 x0 65535), 0)) else (some (0, 0, 0, 0, 0, 21))) else (some (0, 0, 0, 0, 0, 21)))) else (if x27 = 7 then ((word_Sext.f x0 24).bind fun t124 => ((instr_Encode.f k x118000 x118001 x118002 x118003 (wrap64 (t124))).bind fun bt125 => (if bt125.2 = 0 then (if bt125.1 = x0 then (some (x118000, x118001, x118002, x118003, wrap64 (t124), 0)) else (some (0, 0, 0, 0, 0, 21))) else (some (0, 0, 0, 0, 0, 21))))) else (if x27 = 5 then ((instr_Encode.f k x118000 x118001 x118002 (wrap64 (Go.bits .and .u32 x0 15)) x118004).bind fun bt127 => (if bt127.2 = 0 then (if bt127.1 = x0 then (some (x118000, x118001, x118002, wrap64 (Go.bits .and .u32 x0 15), x118004, 0)) else (some (0, 0, 0, 0, 0, 21))) else (some (0, 0, 0, 0, 0, 21)))) else ((instr_Encode.f k x118000 x118001 x118002 x118003 x118004).bind fun bt129 => (if bt129.2 = 0 then (if bt129.1 = x0 then (some (x118000, x118001, x118002, x118003, x118004, 0)) else (some (0, 0, 0, 0, 0, 21))) else (some (0, 0, 0, 0, 0, 21))))))
end
def instr_Decode.f (k : Nat) (a0 : Int) : Option (Int × Int × Int × Int × Int × Int) := (instr_Shape.f k (wrap64 (a0 / 16777216))).bind fun t118 => (if t118 = 7 then (instr_Decode.j0 k a0 t118 (wrap64 (a0 / 16777216)) 0 0 0 0) else (instr_Decode.j0 k a0 t118 (wrap64 (a0 / 16777216)) (wrap64 (Go.bits .and .u32 (a0 / 1048576) 15)) (wrap64 (Go.bits .and .u32 (a0 / 65536) 15)) 0 0))
theorem instr_Decode.mono_l : ∀ k, (∀ y0 y1 y2 y3 y4 y5 y6, LeO (instr_Decode.j0 k y0 y1 y2 y3 y4 y5 y6) (instr_Decode.j0 (k + 1) y0 y1 y2 y3 y4 y5 y6)) ∧ (∀ y0 y1 y2 y3 y4 y5 y6 y7, LeO (instr_Decode.j1 k y0 y1 y2 y3 y4 y5 y6 y7) (instr_Decode.j1 (k + 1) y0 y1 y2 y3 y4 y5 y6 y7)) ∧ (∀ y0 y1 y2 y3 y4 y5 y6 y7, LeO (instr_Decode.j2 k y0 y1 y2 y3 y4 y5 y6 y7) (instr_Decode.j2 (k + 1) y0 y1 y2 y3 y4 y5 y6 y7))
 | 0 => ⟨fun _ _ _ _ _ _ _ r h => by simp [instr_Decode.j0] at h, fun _ _ _ _ _ _ _ _ r h => by simp [instr_Decode.j1] at h, fun _ _ _ _ _ _ _ _ r h => by simp [instr_Decode.j2] at h⟩
 | k + 1 => by
  obtain ⟨ih0, ih1, ih2⟩ := instr_Decode.mono_l k
  refine ⟨?_, ?_, ?_⟩
  ·
   intro y0 y1 y2 y3 y4 y5 y6
   unfold instr_Decode.j0
   repeat' first
   | (with_reducible exact ih0 _ _ _ _ _ _ _)
   | (with_reducible exact ih1 _ _ _ _ _ _ _ _)
   | (with_reducible exact ih2 _ _ _ _ _ _ _ _)
   | (with_reducible exact instr_Encode.mono _ _ _ _ _ _)
   | (with_reducible exact instr_Shape.mono _ _)
   | (with_reducible exact LeO.refl _)
   | (with_reducible exact LeO.none _)
   | (with_reducible refine LeO.ite ?_ ?_)
   | (with_reducible refine LeO.bind ?_ (fun _ => ?_))
   | exact LeO.none _
   | refine LeO.ite ?_ ?_
   | refine LeO.bind ?_ (fun _ => ?_)
  ·
   intro y0 y1 y2 y3 y4 y5 y6 y7
   unfold instr_Decode.j1
   repeat' first
   | (with_reducible exact ih0 _ _ _ _ _ _ _)
   | (with_reducible exact ih1 _ _ _ _ _ _ _ _)
   | (with_reducible exact ih2 _ _ _ _ _ _ _ _)
   | (with_reducible exact instr_Encode.mono _ _ _ _ _ _)
   | (with_reducible exact instr_Shape.mono _ _)
   | (with_reducible exact LeO.refl _)
   | (with_reducible exact LeO.none _)
   | (with_reducible refine LeO.ite ?_ ?_)
   | (with_reducible refine LeO.bind ?_ (fun _ => ?_))
   | exact LeO.none _
   | refine LeO.ite ?_ ?_
   | refine LeO.bind ?_ (fun _ => ?_)
  ·
   intro y0 y1 y2 y3 y4 y5 y6 y7
   unfold instr_Decode.j2
   repeat' first
   | (with_reducible exact ih0 _ _ _ _ _ _ _)
   | (with_reducible exact ih1 _ _ _ _ _ _ _ _)
   | (with_reducible exact ih2 _ _ _ _ _ _ _ _)
   | (with_reducible exact instr_Encode.mono _ _ _ _ _ _)
   | (with_reducible exact instr_Shape.mono _ _)
   | (with_reducible exact LeO.refl _)
   | (with_reducible exact LeO.none _)
   | (with_reducible refine LeO.ite ?_ ?_)
   | (with_reducible refine LeO.bind ?_ (fun _ => ?_))
   | exact LeO.none _
   | refine LeO.ite ?_ ?_
   | refine LeO.bind ?_ (fun _ => ?_)
theorem instr_Decode.mono : ∀ a0 k, LeO (instr_Decode.f k a0) (instr_Decode.f (k + 1) a0) := by
 intro a0 k
 obtain ⟨ih0, ih1, ih2⟩ := instr_Decode.mono_l k
 unfold instr_Decode.f
 repeat' first
  | (with_reducible exact ih0 _ _ _ _ _ _ _)
  | (with_reducible exact ih1 _ _ _ _ _ _ _ _)
  | (with_reducible exact ih2 _ _ _ _ _ _ _ _)
  | (with_reducible exact instr_Encode.mono _ _ _ _ _ _)
  | (with_reducible exact instr_Shape.mono _ _)
  | (with_reducible exact LeO.refl _)
  | (with_reducible exact LeO.none _)
  | (with_reducible refine LeO.ite ?_ ?_)
  | (with_reducible refine LeO.bind ?_ (fun _ => ?_))
  | exact LeO.none _
  | refine LeO.ite ?_ ?_
  | refine LeO.bind ?_ (fun _ => ?_)
set_option maxHeartbeats 8000000 in
set_option maxRecDepth 100000 in
theorem instr_Decode.calls (k : Nat) (a0 : Int) (r1 : Int) (r2 : Int) (r3 : Int) (r4 : Int) (r5 : Int) (r6 : Int) (w : World) (h : instr_Decode.f k a0 = some (r1, r2, r3, r4, r5, r6)) :
 Calls Try.prog 20 #[.int .u32 a0] w fun e w' => e = .returned (.tuple #[.agg #[.int .i64 r1, .int .i64 r2, .int .i64 r3, .int .i64 r4, .int .i64 r5], .int .i64 r6]) ∧ Below w.heap.size w w' := by
 have hu24 := Try.underlying24
 have HB := mK (Below.refl w.heap.size w)
 have H : ((instr_Shape.f k (wrap64 (a0 / 16777216))).bind fun t118 => (if t118 = 7 then (instr_Decode.j0 k a0 t118 (wrap64 (a0 / 16777216)) 0 0 0 0) else (instr_Decode.j0 k a0 t118 (wrap64 (a0 / 16777216)) (wrap64 (Go.bits .and .u32 (a0 / 1048576) 15)) (wrap64 (Go.bits .and .u32 (a0 / 65536) 15)) 0 0))) = some (r1, r2, r3, r4, r5, r6) := h
 clear h
 replace H := oB H
 obtain ⟨t118, A20, H⟩ := H
 replace H : (if t118 = 7 then (instr_Decode.j0 k a0 t118 (wrap64 (a0 / 16777216)) 0 0 0 0) else (instr_Decode.j0 k a0 t118 (wrap64 (a0 / 16777216)) (wrap64 (Go.bits .and .u32 (a0 / 1048576) 15)) (wrap64 (Go.bits .and .u32 (a0 / 65536) 15)) 0 0)) = some (r1, r2, r3, r4, r5, r6) := H
 have A2 := mK A20
 clear A20
 have HC3 := mK H
 clear H
 go_enter Try.func20, Try.ntmps20
 go_upto_if 16 with (first | ((with_reducible refine gate_dst (N := 2) rfl ?_); refine box_event ?hg (N := 2) ?hd (cs := #[.int .i64 0, .int .i64 0, .int .i64 0, .int .i64 0, .int .i64 0]) (t := 24) ?hr ?_; (case hd => rfl); (case hg => rfl); (case hr => first | (go_simp; done) | (go_simp; rfl)); intro gb116 hg w4 hbox hb; have n0_ := mK (bP (by repeat (first | (with_reducible first | exact HB.out | apply bA | apply bN | apply bD) | exact HB.out)) hb); have n1_ := mK (hbox); have n2_ := mK ((by rw [hg]; exact (bZ (by repeat (first | (with_reducible first | exact HB.out | apply bA | apply bN | apply bD) | exact HB.out))) : w.heap.size ≤ gb116)); have n3_ := mK ((by rw [hg]; exact (bZ (by repeat (first | (with_reducible first | exact HB.out | apply bA | apply bN | apply bD) | exact HB.out))) : w.heap.size ≤ gb116)); clear HB; have HB := n0_; have BK116 := n1_; have GW116 := n2_; have GE116 := n3_; clear n0_ n1_ n2_ n3_; clear hb hbox hg) | ((with_reducible refine gate_dst (N := 4) rfl ?_); refine box_event ?hg (N := 4) ?hd (cs := #[.int .i64 0, .int .i64 0, .int .i64 0, .int .i64 0, .int .i64 0]) (t := 24) ?hr ?_; (case hd => rfl); (case hg => rfl); (case hr => first | (go_simp; done) | (go_simp; rfl)); intro gb117 hg w5 hbox hb; have n0_ := mK (kB (g := gb116) (o := o5 0 0 0 0 0 24) (by (with_reducible repeat (first | refine kN ?_ _ | refine kD ?_ | refine kA ?_ _)); exact BK116.out) hb); have n1_ := mK (bP (by repeat (first | (with_reducible first | exact HB.out | apply bA | apply bN | apply bD | refine bS ?_ GE116.out) | exact HB.out)) hb); have n2_ := mK (hbox); have n3_ := mK ((by rw [hg]; exact (bZ (by repeat (first | (with_reducible first | exact HB.out | apply bA | apply bN | apply bD | refine bS ?_ GE116.out) | exact HB.out))) : w.heap.size ≤ gb117)); have n4_ := mK ((by rw [hg]; exact (bZ (by repeat (first | (with_reducible first | exact HB.out | apply bA | apply bN | apply bD | refine bS ?_ GE116.out) | exact HB.out))) : w.heap.size ≤ gb117)); have n5_ := mK ((by rw [hg]; exact Nat.ne_of_lt (blk_lt (g := gb116) (o := o5 0 0 0 0 0 24) (by (with_reducible repeat (first | refine kN ?_ _ | refine kD ?_ | refine kA ?_ _)); exact BK116.out)) : gb116 ≠ gb117)); have n6_ := mK ((by rw [hg]; exact Nat.ne_of_gt (blk_lt (g := gb116) (o := o5 0 0 0 0 0 24) (by (with_reducible repeat (first | refine kN ?_ _ | refine kD ?_ | refine kA ?_ _)); exact BK116.out)) : gb117 ≠ gb116)); clear BK116; clear HB; have BK116 := n0_; have HB := n1_; have BK117 := n2_; have GW117 := n3_; have GE117 := n4_; have NB116_117 := n5_; have NB117_116 := n6_; clear n0_ n1_ n2_ n3_ n4_ n5_ n6_; clear hb hbox hg; have hnb6 := NB117_116.out; have hnc6 := NB116_117.out; obtain ⟨hcz7_0, hcz7_1, hcz7_2, hcz7_3, hcz7_4, hfz7_0, hfz7_1, hfz7_2, hfz7_3, hfz7_4⟩ := cf5 BK117.out) | ((with_reducible refine gate_callee (f := 36) rfl ?_); refine goesL_ (some 14) rfl rfl Try.func36 (by kernel_rfl) rfl #[.int .i64 (wrap64 (a0 / 16777216))] rfl (by (try simp only [List.map_toArray, List.map_cons, List.map_nil]); first | done | rfl) ?_; (with_reducible refine (instr_Shape.calls k (wrap64 (a0 / 16777216)) t118 _ A2.out).mono ?_); rintro e w' ⟨rfl, ⟨nd, rfl⟩⟩; refine ⟨_, rfl, ?_⟩))
 (try simp only [Act.put, List.setIfInBounds_toArray, List.set_cons_zero, List.set_cons_succ])
 go_cut [] (fun wc => ∃ (kq : Nat) (x118001_2 : Int) (x118002_2 : Int), Aside0 (instr_Decode.j0 kq a0 t118 (wrap64 (a0 / 16777216)) x118001_2 x118002_2 0 0 = some (r1, r2, r3, r4, r5, r6)) ∧ Aside0 (kq ≤ k) ∧ Aside0 (wc.heap[gb116]? = some (o5 0 0 0 0 0 24)) ∧ Aside0 (wc.heap[gb117]? = some (.cells #[.int .i64 (wrap64 (a0 / 16777216)), .int .i64 x118001_2, .int .i64 x118002_2, .int .i64 0, .int .i64 0] 24 (0, 0))) ∧ Aside0 (Below w.heap.size w wc))
 case first =>
  have H := HC3.out
  clear HC3
  by_cases c8 : t118 = 7
  ·
   rw [if_pos c8] at H
   have c8b0 : (t118 == 7) = true := beq_iff_eq.mpr c8
   have c8b1 : (t118 != 7) = false := bR c8
   clear c8
   (first | rw [c8b0] | (simp only [i64_w, i32_w]; rw [c8b0]) | skip)
   have H' := mK H
   clear H
   go_wp2
   go_meet
   case rel => exact ⟨_, (0), (0), H', ⟨by first | omega | exact Nat.le_refl _⟩, ⟨by (with_reducible repeat (first | refine kN ?_ _ | refine kD ?_ | refine kA ?_ _)); refine kR ?_ NB116_117.out _; (with_reducible repeat (first | refine kN ?_ _ | refine kD ?_ | refine kA ?_ _)); refine kR ?_ NB116_117.out _; (with_reducible repeat (first | refine kN ?_ _ | refine kD ?_ | refine kA ?_ _)); refine kR ?_ NB116_117.out _; (with_reducible repeat (first | refine kN ?_ _ | refine kD ?_ | refine kA ?_ _)); refine kR ?_ NB116_117.out _; (with_reducible repeat (first | refine kN ?_ _ | refine kD ?_ | refine kA ?_ _)); refine kR ?_ NB116_117.out _; (with_reducible repeat (first | refine kN ?_ _ | refine kD ?_ | refine kA ?_ _)); exact BK116.out⟩, ⟨by (with_reducible repeat (first | refine kN ?_ _ | refine kD ?_ | refine kA ?_ _)); refine kP (cs := #[.int .i64 (wrap64 (a0 / 16777216)), .int .i64 0, .int .i64 0, .int .i64 0, .int .i64 0]) ?_ 4 _ rfl; (with_reducible repeat (first | refine kN ?_ _ | refine kD ?_ | refine kA ?_ _)); refine kP (cs := #[.int .i64 (wrap64 (a0 / 16777216)), .int .i64 0, .int .i64 0, .int .i64 0, .int .i64 0]) ?_ 3 _ rfl; (with_reducible repeat (first | refine kN ?_ _ | refine kD ?_ | refine kA ?_ _)); refine kP (cs := #[.int .i64 (wrap64 (a0 / 16777216)), .int .i64 0, .int .i64 0, .int .i64 0, .int .i64 0]) ?_ 2 _ rfl; (with_reducible repeat (first | refine kN ?_ _ | refine kD ?_ | refine kA ?_ _)); refine kP (cs := #[.int .i64 (wrap64 (a0 / 16777216)), .int .i64 0, .int .i64 0, .int .i64 0, .int .i64 0]) ?_ 1 _ rfl; (with_reducible repeat (first | refine kN ?_ _ | refine kD ?_ | refine kA ?_ _)); refine kP (cs := #[.int .i64 0, .int .i64 0, .int .i64 0, .int .i64 0, .int .i64 0]) ?_ 0 _ rfl; (with_reducible repeat (first | refine kN ?_ _ | refine kD ?_ | refine kA ?_ _)); exact BK117.out⟩, ⟨by repeat (first | (with_reducible first | exact HB.out | apply bA | apply bN | apply bD | refine bS ?_ GE116.out | refine bS ?_ GE117.out) | exact HB.out)⟩⟩
  ·
   rw [if_neg c8] at H
   have c8b0 : (t118 == 7) = false := bQ c8
   have c8b1 : (t118 != 7) = true := bne_iff_ne.mpr c8
   (first | rw [c8b0] | (simp only [i64_w, i32_w]; rw [c8b0]) | skip)
   have H' := mK H
   clear H
   have hnb9 := NB117_116.out
   have hnc9 := NB116_117.out
   obtain ⟨hcz10_0, hcz10_1, hcz10_2, hcz10_3, hcz10_4, hfz10_0, hfz10_1, hfz10_2, hfz10_3, hfz10_4⟩ := cf5 BK117.out
   go_wp2
   go_meet
   case rel => exact ⟨_, (wrap64 (Go.bits .and .u32 (a0 / 1048576) 15)), (wrap64 (Go.bits .and .u32 (a0 / 65536) 15)), H', ⟨by first | omega | exact Nat.le_refl _⟩, ⟨by (with_reducible repeat (first | refine kN ?_ _ | refine kD ?_ | refine kA ?_ _)); refine kR ?_ NB116_117.out _; (with_reducible repeat (first | refine kN ?_ _ | refine kD ?_ | refine kA ?_ _)); refine kR ?_ NB116_117.out _; (with_reducible repeat (first | refine kN ?_ _ | refine kD ?_ | refine kA ?_ _)); refine kR ?_ NB116_117.out _; (with_reducible repeat (first | refine kN ?_ _ | refine kD ?_ | refine kA ?_ _)); refine kR ?_ NB116_117.out _; (with_reducible repeat (first | refine kN ?_ _ | refine kD ?_ | refine kA ?_ _)); refine kR ?_ NB116_117.out _; (with_reducible repeat (first | refine kN ?_ _ | refine kD ?_ | refine kA ?_ _)); refine kR ?_ NB116_117.out _; (with_reducible repeat (first | refine kN ?_ _ | refine kD ?_ | refine kA ?_ _)); refine kR ?_ NB116_117.out _; (with_reducible repeat (first | refine kN ?_ _ | refine kD ?_ | refine kA ?_ _)); exact BK116.out⟩, ⟨by (with_reducible repeat (first | refine kN ?_ _ | refine kD ?_ | refine kA ?_ _)); refine kP (cs := #[.int .i64 (wrap64 (a0 / 16777216)), .int .i64 (wrap64 (Go.bits .and .u32 (a0 / 1048576) 15)), .int .i64 0, .int .i64 0, .int .i64 0]) ?_ 2 _ rfl; (with_reducible repeat (first | refine kN ?_ _ | refine kD ?_ | refine kA ?_ _)); refine kP (cs := #[.int .i64 (wrap64 (a0 / 16777216)), .int .i64 0, .int .i64 0, .int .i64 0, .int .i64 0]) ?_ 1 _ rfl; (with_reducible repeat (first | refine kN ?_ _ | refine kD ?_ | refine kA ?_ _)); refine kP (cs := #[.int .i64 (wrap64 (a0 / 16777216)), .int .i64 0, .int .i64 0, .int .i64 0, .int .i64 0]) ?_ 4 _ rfl; (with_reducible repeat (first | refine kN ?_ _ | refine kD ?_ | refine kA ?_ _)); refine kP (cs := #[.int .i64 (wrap64 (a0 / 16777216)), .int .i64 0, .int .i64 0, .int .i64 0, .int .i64 0]) ?_ 3 _ rfl; (with_reducible repeat (first | refine kN ?_ _ | refine kD ?_ | refine kA ?_ _)); refine kP (cs := #[.int .i64 (wrap64 (a0 / 16777216)), .int .i64 0, .int .i64 0, .int .i64 0, .int .i64 0]) ?_ 2 _ rfl; (with_reducible repeat (first | refine kN ?_ _ | refine kD ?_ | refine kA ?_ _)); refine kP (cs := #[.int .i64 (wrap64 (a0 / 16777216)), .int .i64 0, .int .i64 0, .int .i64 0, .int .i64 0]) ?_ 1 _ rfl; (with_reducible repeat (first | refine kN ?_ _ | refine kD ?_ | refine kA ?_ _)); refine kP (cs := #[.int .i64 0, .int .i64 0, .int .i64 0, .int .i64 0, .int .i64 0]) ?_ 0 _ rfl; (with_reducible repeat (first | refine kN ?_ _ | refine kD ?_ | refine kA ?_ _)); exact BK117.out⟩, ⟨by repeat (first | (with_reducible first | exact HB.out | apply bA | apply bN | apply bD | refine bS ?_ GE116.out | refine bS ?_ GE117.out) | exact HB.out)⟩⟩
 case rest =>
  clear HC3
  (try clear hcz7_0); (try clear hcz7_1); (try clear hcz7_2); (try clear hcz7_3); (try clear hcz7_4); (try clear hfz7_0); (try clear hfz7_1); (try clear hfz7_2); (try clear hfz7_3); (try clear hfz7_4)
  obtain ⟨kq, x118001_2, x118002_2, HA, HJ2, BK116, BK117, HB⟩ := hcut
  cases kq with
  | zero => exact absurd HA.out (by simp [instr_Decode.j0])
  | succ kj2 =>
   have H := HA.out
   clear HA
   simp only [instr_Decode.j0] at H
   have HC11 := mK H
   clear H
   go_upto_if 28 with (fail)
   go_cut [28] (fun v28 wc => ∃ (kq : Nat) (x28_10 : Bool), v28 = .bool x28_10 ∧ Aside0 (instr_Decode.j1 kq a0 t118 x28_10 (wrap64 (a0 / 16777216)) x118001_2 x118002_2 0 0 = some (r1, r2, r3, r4, r5, r6)) ∧ Aside0 (kq ≤ kj2) ∧ Aside0 (wc.heap[gb116]? = some (o5 0 0 0 0 0 24)) ∧ Aside0 (wc.heap[gb117]? = some (.cells #[.int .i64 (wrap64 (a0 / 16777216)), .int .i64 x118001_2, .int .i64 x118002_2, .int .i64 0, .int .i64 0] 24 (0, 0))) ∧ Aside0 (Below w.heap.size w wc))
   case first =>
    have H := HC11.out
    clear HC11
    by_cases c12 : t118 = 1
    ·
     rw [if_pos c12] at H
     have c12b0 : (t118 == 1) = true := beq_iff_eq.mpr c12
     have c12b1 : (t118 != 1) = false := bR c12
     clear c12
     (first | rw [c12b0] | (simp only [i64_w, i32_w]; rw [c12b0]) | skip)
     have H' := mK H
     clear H
     go_wp2
     go_meet
     case rel => exact ⟨_, ((t118 == 1)), (by first | rfl | (simp; done) | (simp [*]; done)), H', ⟨by have := HJ2.out; first | omega | exact Nat.le_refl _⟩, ⟨by (with_reducible repeat (first | refine kN ?_ _ | refine kD ?_ | refine kA ?_ _)); exact BK116.out⟩, ⟨by (with_reducible repeat (first | refine kN ?_ _ | refine kD ?_ | refine kA ?_ _)); exact BK117.out⟩, ⟨by repeat (first | (with_reducible first | exact HB.out | apply bA | apply bN | apply bD | refine bS ?_ GE116.out | refine bS ?_ GE117.out) | exact HB.out)⟩⟩
    ·
     rw [if_neg c12] at H
     have c12b0 : (t118 == 1) = false := bQ c12
     have c12b1 : (t118 != 1) = true := bne_iff_ne.mpr c12
     (first | rw [c12b0] | (simp only [i64_w, i32_w]; rw [c12b0]) | skip)
     have H' := mK H
     clear H
     go_wp2
     go_meet
     case rel => exact ⟨_, ((t118 == 3)), (by first | rfl | (simp; done) | (simp [*]; done)), H', ⟨by have := HJ2.out; first | omega | exact Nat.le_refl _⟩, ⟨by (with_reducible repeat (first | refine kN ?_ _ | refine kD ?_ | refine kA ?_ _)); exact BK116.out⟩, ⟨by (with_reducible repeat (first | refine kN ?_ _ | refine kD ?_ | refine kA ?_ _)); exact BK117.out⟩, ⟨by repeat (first | (with_reducible first | exact HB.out | apply bA | apply bN | apply bD | refine bS ?_ GE116.out | refine bS ?_ GE117.out) | exact HB.out)⟩⟩
   case rest =>
    clear HC11
    (try clear hcz7_0); (try clear hcz7_1); (try clear hcz7_2); (try clear hcz7_3); (try clear hcz7_4); (try clear hfz7_0); (try clear hfz7_1); (try clear hfz7_2); (try clear hfz7_3); (try clear hfz7_4)
    obtain ⟨kq, x28_10, rfl, HA, HJ10, BK116, BK117, HB⟩ := hcut
    cases kq with
    | zero => exact absurd HA.out (by simp [instr_Decode.j1])
    | succ kj10 =>
     have H := HA.out
     clear HA
     simp only [instr_Decode.j1] at H
     by_cases c13 : x28_10 = true
     ·
      subst c13
      have H1 : ((word_Sext.f a0 16).bind fun t119 => ((instr_Encode.f kj10 (wrap64 (a0 / 16777216)) x118001_2 x118002_2 0 (wrap64 (t119))).bind fun bt120 => (if bt120.2 = 0 then (if bt120.1 = a0 then (some ((wrap64 (a0 / 16777216)), x118001_2, x118002_2, 0, wrap64 (t119), 0)) else (some (0, 0, 0, 0, 0, 21))) else (some (0, 0, 0, 0, 0, 21))))) = some (r1, r2, r3, r4, r5, r6) := by rw [if_pos rfl] at H; exact H
      clear H
      have H := H1
      clear H1
      replace H := oB H
      obtain ⟨t119, A140, H⟩ := H
      replace H : ((instr_Encode.f kj10 (wrap64 (a0 / 16777216)) x118001_2 x118002_2 0 (wrap64 (t119))).bind fun bt120 => (if bt120.2 = 0 then (if bt120.1 = a0 then (some ((wrap64 (a0 / 16777216)), x118001_2, x118002_2, 0, wrap64 (t119), 0)) else (some (0, 0, 0, 0, 0, 21))) else (some (0, 0, 0, 0, 0, 21)))) = some (r1, r2, r3, r4, r5, r6) := H
      have A14 := mK A140
      clear A140
      replace H := oB H
      obtain ⟨⟨t120, t121⟩, A150, H⟩ := H
      replace H : (if t121 = 0 then (if t120 = a0 then (some ((wrap64 (a0 / 16777216)), x118001_2, x118002_2, 0, wrap64 (t119), 0)) else (some (0, 0, 0, 0, 0, 21))) else (some (0, 0, 0, 0, 0, 21))) = some (r1, r2, r3, r4, r5, r6) := H
      have A15 := mK A150
      clear A150
      by_cases c16 : t121 = 0
      ·
       rw [if_pos c16] at H
       have c16b0 : (t121 == 0) = true := beq_iff_eq.mpr c16
       have c16b1 : (t121 != 0) = false := bR c16
       clear c16
       by_cases c17 : t120 = a0
       ·
        rw [if_pos c17] at H
        have c17b0 : (t120 == a0) = true := beq_iff_eq.mpr c17
        have c17b1 : (t120 != a0) = false := bR c17
        clear c17
        simp only [Option.some.injEq, Prod.mk.injEq] at H
        obtain ⟨rfl, rfl, rfl, rfl, rfl, rfl⟩ := H
        go_wp2_with (first | ((with_reducible refine gate_callee (f := 37) rfl ?_); refine goesL_ (some 32) rfl rfl Try.func37 (by kernel_rfl) rfl #[.int .u32 a0, .int .i64 16] rfl (by (try simp only [List.map_toArray, List.map_cons, List.map_nil]); first | done | rfl) ?_; (with_reducible refine (word_Sext.calls a0 16 t119 _ A14.out).mono ?_); rintro e w18 ⟨rfl, hb⟩; refine ⟨_, rfl, ?_⟩; have n0_ := mK (kB (g := gb116) (o := o5 0 0 0 0 0 24) (by (with_reducible repeat (first | refine kN ?_ _ | refine kD ?_ | refine kA ?_ _)); exact BK116.out) hb); have n1_ := mK (kB (g := gb117) (o := .cells #[.int .i64 (wrap64 (a0 / 16777216)), .int .i64 x118001_2, .int .i64 x118002_2, .int .i64 0, .int .i64 0] 24 (0, 0)) (by (with_reducible repeat (first | refine kN ?_ _ | refine kD ?_ | refine kA ?_ _)); exact BK117.out) hb); have n2_ := mK (bP (by repeat (first | (with_reducible first | exact HB.out | apply bA | apply bN | apply bD | refine bS ?_ GE116.out | refine bS ?_ GE117.out) | exact HB.out)) hb); clear BK116; clear BK117; clear HB; have BK116 := n0_; have BK117 := n1_; have HB := n2_; clear n0_ n1_ n2_; (try clear hb); have hnb19 := NB117_116.out; have hnc19 := NB116_117.out; obtain ⟨hcz20_0, hcz20_1, hcz20_2, hcz20_3, hcz20_4, hfz20_0, hfz20_1, hfz20_2, hfz20_3, hfz20_4⟩ := cf5 BK117.out) | ((with_reducible refine gate_callee (f := 38) rfl ?_); refine goesL_ (some 57) rfl rfl Try.func38 (by kernel_rfl) rfl #[.agg #[.int .i64 (wrap64 (a0 / 16777216)), .int .i64 x118001_2, .int .i64 x118002_2, .int .i64 0, .int .i64 (wrap64 (t119))]] rfl (by (try simp only [List.map_toArray, List.map_cons, List.map_nil]); first | done | rfl) ?_; (with_reducible refine (instr_Encode.calls kj10 (wrap64 (a0 / 16777216)) x118001_2 x118002_2 0 (wrap64 (t119)) t120 t121 _ A15.out).mono ?_); rintro e w21 ⟨rfl, hb⟩; refine ⟨_, rfl, ?_⟩; have n0_ := mK (kB (g := gb116) (o := o5 0 0 0 0 0 24) (by (with_reducible repeat (first | refine kN ?_ _ | refine kD ?_ | refine kA ?_ _)); refine kR ?_ NB116_117.out _; (with_reducible repeat (first | refine kN ?_ _ | refine kD ?_ | refine kA ?_ _)); exact BK116.out) hb); have n1_ := mK (kB (g := gb117) (o := .cells #[.int .i64 (wrap64 (a0 / 16777216)), .int .i64 x118001_2, .int .i64 x118002_2, .int .i64 0, .int .i64 (wrap64 (t119))] 24 (0, 0)) (by (with_reducible repeat (first | refine kN ?_ _ | refine kD ?_ | refine kA ?_ _)); refine kP (cs := #[.int .i64 (wrap64 (a0 / 16777216)), .int .i64 x118001_2, .int .i64 x118002_2, .int .i64 0, .int .i64 0]) ?_ 4 _ rfl; (with_reducible repeat (first | refine kN ?_ _ | refine kD ?_ | refine kA ?_ _)); exact BK117.out) hb); have n2_ := mK (bP (by repeat (first | (with_reducible first | exact HB.out | apply bA | apply bN | apply bD | refine bS ?_ GE116.out | refine bS ?_ GE117.out) | exact HB.out)) hb); clear BK116; clear BK117; clear HB; have BK116 := n0_; have BK117 := n1_; have HB := n2_; clear n0_ n1_ n2_; (try clear hb); obtain ⟨hcz22_0, hcz22_1, hcz22_2, hcz22_3, hcz22_4, hfz22_0, hfz22_1, hfz22_2, hfz22_3, hfz22_4⟩ := cf5 BK117.out; obtain ⟨hcz23_0, hcz23_1, hcz23_2, hcz23_3, hcz23_4, hfz23_0, hfz23_1, hfz23_2, hfz23_3, hfz23_4⟩ := cf5 BK116.out))
        refine bodyPost_ret (results_ct rfl _ _ gb116 24 #[.int .i64 (wrap64 (a0 / 16777216)), .int .i64 x118001_2, .int .i64 x118002_2, .int .i64 0, .int .i64 (wrap64 (t119))] (0, 0) _ rfl (by (with_reducible repeat (first | refine kN ?_ _ | refine kD ?_ | refine kA ?_ _)); refine kP (cs := #[.int .i64 (wrap64 (a0 / 16777216)), .int .i64 x118001_2, .int .i64 x118002_2, .int .i64 0, .int .i64 0]) ?_ 4 _ rfl; (with_reducible repeat (first | refine kN ?_ _ | refine kD ?_ | refine kA ?_ _)); refine kP (cs := #[.int .i64 (wrap64 (a0 / 16777216)), .int .i64 x118001_2, .int .i64 x118002_2, .int .i64 0, .int .i64 0]) ?_ 3 _ rfl; (with_reducible repeat (first | refine kN ?_ _ | refine kD ?_ | refine kA ?_ _)); refine kP (cs := #[.int .i64 (wrap64 (a0 / 16777216)), .int .i64 x118001_2, .int .i64 0, .int .i64 0, .int .i64 0]) ?_ 2 _ rfl; (with_reducible repeat (first | refine kN ?_ _ | refine kD ?_ | refine kA ?_ _)); refine kP (cs := #[.int .i64 (wrap64 (a0 / 16777216)), .int .i64 0, .int .i64 0, .int .i64 0, .int .i64 0]) ?_ 1 _ rfl; (with_reducible repeat (first | refine kN ?_ _ | refine kD ?_ | refine kA ?_ _)); refine kP (cs := #[.int .i64 0, .int .i64 0, .int .i64 0, .int .i64 0, .int .i64 0]) ?_ 0 _ rfl; (with_reducible repeat (first | refine kN ?_ _ | refine kD ?_ | refine kA ?_ _)); exact BK116.out) Try.underlying24 rfl (by kernel_rfl)) rfl ?_
        exact ⟨by first | rfl | (simp [errW_none, errW_some] <;> rfl) | (simp [*, errW_none, errW_some] <;> rfl), by repeat (first | (with_reducible first | exact HB.out | apply bA | apply bN | apply bD | refine bS ?_ GE116.out | refine bS ?_ GE117.out) | exact HB.out)⟩
       ·
        rw [if_neg c17] at H
        have c17b0 : (t120 == a0) = false := bQ c17
        have c17b1 : (t120 != a0) = true := bne_iff_ne.mpr c17
        simp only [Option.some.injEq, Prod.mk.injEq] at H
        obtain ⟨rfl, rfl, rfl, rfl, rfl, rfl⟩ := H
        go_wp2_with (first | ((with_reducible refine gate_callee (f := 37) rfl ?_); refine goesL_ (some 32) rfl rfl Try.func37 (by kernel_rfl) rfl #[.int .u32 a0, .int .i64 16] rfl (by (try simp only [List.map_toArray, List.map_cons, List.map_nil]); first | done | rfl) ?_; (with_reducible refine (word_Sext.calls a0 16 t119 _ A14.out).mono ?_); rintro e w24 ⟨rfl, hb⟩; refine ⟨_, rfl, ?_⟩; have n0_ := mK (kB (g := gb116) (o := o5 0 0 0 0 0 24) (by (with_reducible repeat (first | refine kN ?_ _ | refine kD ?_ | refine kA ?_ _)); exact BK116.out) hb); have n1_ := mK (kB (g := gb117) (o := .cells #[.int .i64 (wrap64 (a0 / 16777216)), .int .i64 x118001_2, .int .i64 x118002_2, .int .i64 0, .int .i64 0] 24 (0, 0)) (by (with_reducible repeat (first | refine kN ?_ _ | refine kD ?_ | refine kA ?_ _)); exact BK117.out) hb); have n2_ := mK (bP (by repeat (first | (with_reducible first | exact HB.out | apply bA | apply bN | apply bD | refine bS ?_ GE116.out | refine bS ?_ GE117.out) | exact HB.out)) hb); clear BK116; clear BK117; clear HB; have BK116 := n0_; have BK117 := n1_; have HB := n2_; clear n0_ n1_ n2_; (try clear hb); have hnb25 := NB117_116.out; have hnc25 := NB116_117.out; obtain ⟨hcz26_0, hcz26_1, hcz26_2, hcz26_3, hcz26_4, hfz26_0, hfz26_1, hfz26_2, hfz26_3, hfz26_4⟩ := cf5 BK117.out) | ((with_reducible refine gate_callee (f := 38) rfl ?_); refine goesL_ (some 57) rfl rfl Try.func38 (by kernel_rfl) rfl #[.agg #[.int .i64 (wrap64 (a0 / 16777216)), .int .i64 x118001_2, .int .i64 x118002_2, .int .i64 0, .int .i64 (wrap64 (t119))]] rfl (by (try simp only [List.map_toArray, List.map_cons, List.map_nil]); first | done | rfl) ?_; (with_reducible refine (instr_Encode.calls kj10 (wrap64 (a0 / 16777216)) x118001_2 x118002_2 0 (wrap64 (t119)) t120 t121 _ A15.out).mono ?_); rintro e w27 ⟨rfl, hb⟩; refine ⟨_, rfl, ?_⟩; have n0_ := mK (kB (g := gb116) (o := o5 0 0 0 0 0 24) (by (with_reducible repeat (first | refine kN ?_ _ | refine kD ?_ | refine kA ?_ _)); refine kR ?_ NB116_117.out _; (with_reducible repeat (first | refine kN ?_ _ | refine kD ?_ | refine kA ?_ _)); exact BK116.out) hb); have n1_ := mK (kB (g := gb117) (o := .cells #[.int .i64 (wrap64 (a0 / 16777216)), .int .i64 x118001_2, .int .i64 x118002_2, .int .i64 0, .int .i64 (wrap64 (t119))] 24 (0, 0)) (by (with_reducible repeat (first | refine kN ?_ _ | refine kD ?_ | refine kA ?_ _)); refine kP (cs := #[.int .i64 (wrap64 (a0 / 16777216)), .int .i64 x118001_2, .int .i64 x118002_2, .int .i64 0, .int .i64 0]) ?_ 4 _ rfl; (with_reducible repeat (first | refine kN ?_ _ | refine kD ?_ | refine kA ?_ _)); exact BK117.out) hb); have n2_ := mK (bP (by repeat (first | (with_reducible first | exact HB.out | apply bA | apply bN | apply bD | refine bS ?_ GE116.out | refine bS ?_ GE117.out) | exact HB.out)) hb); clear BK116; clear BK117; clear HB; have BK116 := n0_; have BK117 := n1_; have HB := n2_; clear n0_ n1_ n2_; (try clear hb); obtain ⟨hcz28_0, hcz28_1, hcz28_2, hcz28_3, hcz28_4, hfz28_0, hfz28_1, hfz28_2, hfz28_3, hfz28_4⟩ := cf5 BK116.out))
        refine bodyPost_ret (results_ct rfl _ _ gb116 24 #[.int .i64 0, .int .i64 0, .int .i64 0, .int .i64 0, .int .i64 0] (0, 0) _ rfl (by (with_reducible repeat (first | refine kN ?_ _ | refine kD ?_ | refine kA ?_ _)); refine kP (cs := #[.int .i64 0, .int .i64 0, .int .i64 0, .int .i64 0, .int .i64 0]) ?_ 4 _ rfl; (with_reducible repeat (first | refine kN ?_ _ | refine kD ?_ | refine kA ?_ _)); refine kP (cs := #[.int .i64 0, .int .i64 0, .int .i64 0, .int .i64 0, .int .i64 0]) ?_ 3 _ rfl; (with_reducible repeat (first | refine kN ?_ _ | refine kD ?_ | refine kA ?_ _)); refine kP (cs := #[.int .i64 0, .int .i64 0, .int .i64 0, .int .i64 0, .int .i64 0]) ?_ 2 _ rfl; (with_reducible repeat (first | refine kN ?_ _ | refine kD ?_ | refine kA ?_ _)); refine kP (cs := #[.int .i64 0, .int .i64 0, .int .i64 0, .int .i64 0, .int .i64 0]) ?_ 1 _ rfl; (with_reducible repeat (first | refine kN ?_ _ | refine kD ?_ | refine kA ?_ _)); refine kP (cs := #[.int .i64 0, .int .i64 0, .int .i64 0, .int .i64 0, .int .i64 0]) ?_ 0 _ rfl; (with_reducible repeat (first | refine kN ?_ _ | refine kD ?_ | refine kA ?_ _)); exact BK116.out) Try.underlying24 rfl (by kernel_rfl)) rfl ?_
        exact ⟨by first | rfl | (simp [errW_none, errW_some] <;> rfl) | (simp [*, errW_none, errW_some] <;> rfl), by repeat (first | (with_reducible first | exact HB.out | apply bA | apply bN | apply bD | refine bS ?_ GE116.out | refine bS ?_ GE117.out) | exact HB.out)⟩
      ·
       rw [if_neg c16] at H
       have c16b0 : (t121 == 0) = false := bQ c16
       have c16b1 : (t121 != 0) = true := bne_iff_ne.mpr c16
       simp only [Option.some.injEq, Prod.mk.injEq] at H
       obtain ⟨rfl, rfl, rfl, rfl, rfl, rfl⟩ := H
       go_wp2_with (first | ((with_reducible refine gate_callee (f := 37) rfl ?_); refine goesL_ (some 32) rfl rfl Try.func37 (by kernel_rfl) rfl #[.int .u32 a0, .int .i64 16] rfl (by (try simp only [List.map_toArray, List.map_cons, List.map_nil]); first | done | rfl) ?_; (with_reducible refine (word_Sext.calls a0 16 t119 _ A14.out).mono ?_); rintro e w29 ⟨rfl, hb⟩; refine ⟨_, rfl, ?_⟩; have n0_ := mK (kB (g := gb116) (o := o5 0 0 0 0 0 24) (by (with_reducible repeat (first | refine kN ?_ _ | refine kD ?_ | refine kA ?_ _)); exact BK116.out) hb); have n1_ := mK (kB (g := gb117) (o := .cells #[.int .i64 (wrap64 (a0 / 16777216)), .int .i64 x118001_2, .int .i64 x118002_2, .int .i64 0, .int .i64 0] 24 (0, 0)) (by (with_reducible repeat (first | refine kN ?_ _ | refine kD ?_ | refine kA ?_ _)); exact BK117.out) hb); have n2_ := mK (bP (by repeat (first | (with_reducible first | exact HB.out | apply bA | apply bN | apply bD | refine bS ?_ GE116.out | refine bS ?_ GE117.out) | exact HB.out)) hb); clear BK116; clear BK117; clear HB; have BK116 := n0_; have BK117 := n1_; have HB := n2_; clear n0_ n1_ n2_; (try clear hb); have hnb30 := NB117_116.out; have hnc30 := NB116_117.out; obtain ⟨hcz31_0, hcz31_1, hcz31_2, hcz31_3, hcz31_4, hfz31_0, hfz31_1, hfz31_2, hfz31_3, hfz31_4⟩ := cf5 BK117.out) | ((with_reducible refine gate_callee (f := 38) rfl ?_); refine goesL_ (some 57) rfl rfl Try.func38 (by kernel_rfl) rfl #[.agg #[.int .i64 (wrap64 (a0 / 16777216)), .int .i64 x118001_2, .int .i64 x118002_2, .int .i64 0, .int .i64 (wrap64 (t119))]] rfl (by (try simp only [List.map_toArray, List.map_cons, List.map_nil]); first | done | rfl) ?_; (with_reducible refine (instr_Encode.calls kj10 (wrap64 (a0 / 16777216)) x118001_2 x118002_2 0 (wrap64 (t119)) t120 t121 _ A15.out).mono ?_); rintro e w32 ⟨rfl, hb⟩; refine ⟨_, rfl, ?_⟩; have n0_ := mK (kB (g := gb116) (o := o5 0 0 0 0 0 24) (by (with_reducible repeat (first | refine kN ?_ _ | refine kD ?_ | refine kA ?_ _)); refine kR ?_ NB116_117.out _; (with_reducible repeat (first | refine kN ?_ _ | refine kD ?_ | refine kA ?_ _)); exact BK116.out) hb); have n1_ := mK (kB (g := gb117) (o := .cells #[.int .i64 (wrap64 (a0 / 16777216)), .int .i64 x118001_2, .int .i64 x118002_2, .int .i64 0, .int .i64 (wrap64 (t119))] 24 (0, 0)) (by (with_reducible repeat (first | refine kN ?_ _ | refine kD ?_ | refine kA ?_ _)); refine kP (cs := #[.int .i64 (wrap64 (a0 / 16777216)), .int .i64 x118001_2, .int .i64 x118002_2, .int .i64 0, .int .i64 0]) ?_ 4 _ rfl; (with_reducible repeat (first | refine kN ?_ _ | refine kD ?_ | refine kA ?_ _)); exact BK117.out) hb); have n2_ := mK (bP (by repeat (first | (with_reducible first | exact HB.out | apply bA | apply bN | apply bD | refine bS ?_ GE116.out | refine bS ?_ GE117.out) | exact HB.out)) hb); clear BK116; clear BK117; clear HB; have BK116 := n0_; have BK117 := n1_; have HB := n2_; clear n0_ n1_ n2_; (try clear hb); obtain ⟨hcz33_0, hcz33_1, hcz33_2, hcz33_3, hcz33_4, hfz33_0, hfz33_1, hfz33_2, hfz33_3, hfz33_4⟩ := cf5 BK116.out))
       refine bodyPost_ret (results_ct rfl _ _ gb116 24 #[.int .i64 0, .int .i64 0, .int .i64 0, .int .i64 0, .int .i64 0] (0, 0) _ rfl (by (with_reducible repeat (first | refine kN ?_ _ | refine kD ?_ | refine kA ?_ _)); refine kP (cs := #[.int .i64 0, .int .i64 0, .int .i64 0, .int .i64 0, .int .i64 0]) ?_ 4 _ rfl; (with_reducible repeat (first | refine kN ?_ _ | refine kD ?_ | refine kA ?_ _)); refine kP (cs := #[.int .i64 0, .int .i64 0, .int .i64 0, .int .i64 0, .int .i64 0]) ?_ 3 _ rfl; (with_reducible repeat (first | refine kN ?_ _ | refine kD ?_ | refine kA ?_ _)); refine kP (cs := #[.int .i64 0, .int .i64 0, .int .i64 0, .int .i64 0, .int .i64 0]) ?_ 2 _ rfl; (with_reducible repeat (first | refine kN ?_ _ | refine kD ?_ | refine kA ?_ _)); refine kP (cs := #[.int .i64 0, .int .i64 0, .int .i64 0, .int .i64 0, .int .i64 0]) ?_ 1 _ rfl; (with_reducible repeat (first | refine kN ?_ _ | refine kD ?_ | refine kA ?_ _)); refine kP (cs := #[.int .i64 0, .int .i64 0, .int .i64 0, .int .i64 0, .int .i64 0]) ?_ 0 _ rfl; (with_reducible repeat (first | refine kN ?_ _ | refine kD ?_ | refine kA ?_ _)); exact BK116.out) Try.underlying24 rfl (by kernel_rfl)) rfl ?_
       exact ⟨by first | rfl | (simp [errW_none, errW_some] <;> rfl) | (simp [*, errW_none, errW_some] <;> rfl), by repeat (first | (with_reducible first | exact HB.out | apply bA | apply bN | apply bD | refine bS ?_ GE116.out | refine bS ?_ GE117.out) | exact HB.out)⟩
     ·
      replace c13 := Bool.eq_false_iff.mpr c13
      subst c13
      have H1 : (if t118 = 2 then (instr_Decode.j2 kj10 a0 t118 (t118 == 2) (wrap64 (a0 / 16777216)) x118001_2 x118002_2 0 0) else (if t118 = 4 then (instr_Decode.j2 kj10 a0 t118 (t118 == 4) (wrap64 (a0 / 16777216)) x118001_2 x118002_2 0 0) else (instr_Decode.j2 kj10 a0 t118 (t118 == 8) (wrap64 (a0 / 16777216)) x118001_2 x118002_2 0 0))) = some (r1, r2, r3, r4, r5, r6) := by rw [if_neg (show ¬ (false = true) by decide)] at H; exact H
      clear H
      have H := H1
      clear H1
      have HC34 := mK H
      clear H
      go_upto_if 35 with (fail)
      go_cut [35] (fun v35 wc => ∃ (kq : Nat) (x35_33 : Bool), v35 = .bool x35_33 ∧ Aside0 (instr_Decode.j2 kq a0 t118 x35_33 (wrap64 (a0 / 16777216)) x118001_2 x118002_2 0 0 = some (r1, r2, r3, r4, r5, r6)) ∧ Aside0 (kq ≤ kj10) ∧ Aside0 (wc.heap[gb116]? = some (o5 0 0 0 0 0 24)) ∧ Aside0 (wc.heap[gb117]? = some (.cells #[.int .i64 (wrap64 (a0 / 16777216)), .int .i64 x118001_2, .int .i64 x118002_2, .int .i64 0, .int .i64 0] 24 (0, 0))) ∧ Aside0 (Below w.heap.size w wc))
      case first =>
       have H := HC34.out
       clear HC34
       by_cases c35 : t118 = 2
       ·
        rw [if_pos c35] at H
        have c35b0 : (t118 == 2) = true := beq_iff_eq.mpr c35
        have c35b1 : (t118 != 2) = false := bR c35
        clear c35
        (first | rw [c35b0] | (simp only [i64_w, i32_w]; rw [c35b0]) | skip)
        have H' := mK H
        clear H
        go_wp2
        go_meet
        case rel => exact ⟨_, ((t118 == 2)), (by first | rfl | (simp; done) | (simp [*]; done)), H', ⟨by have := HJ2.out; have := HJ10.out; first | omega | exact Nat.le_refl _⟩, ⟨by (with_reducible repeat (first | refine kN ?_ _ | refine kD ?_ | refine kA ?_ _)); exact BK116.out⟩, ⟨by (with_reducible repeat (first | refine kN ?_ _ | refine kD ?_ | refine kA ?_ _)); exact BK117.out⟩, ⟨by repeat (first | (with_reducible first | exact HB.out | apply bA | apply bN | apply bD | refine bS ?_ GE116.out | refine bS ?_ GE117.out) | exact HB.out)⟩⟩
       ·
        rw [if_neg c35] at H
        have c35b0 : (t118 == 2) = false := bQ c35
        have c35b1 : (t118 != 2) = true := bne_iff_ne.mpr c35
        (first | rw [c35b0] | (simp only [i64_w, i32_w]; rw [c35b0]) | skip)
        by_cases c36 : t118 = 4
        ·
         rw [if_pos c36] at H
         have c36b0 : (t118 == 4) = true := beq_iff_eq.mpr c36
         have c36b1 : (t118 != 4) = false := bR c36
         clear c36
         have H' := mK H
         clear H
         go_wp2
         go_meet
         case rel => exact ⟨_, ((t118 == 4)), (by first | rfl | (simp; done) | (simp [*]; done)), H', ⟨by have := HJ2.out; have := HJ10.out; first | omega | exact Nat.le_refl _⟩, ⟨by (with_reducible repeat (first | refine kN ?_ _ | refine kD ?_ | refine kA ?_ _)); exact BK116.out⟩, ⟨by (with_reducible repeat (first | refine kN ?_ _ | refine kD ?_ | refine kA ?_ _)); exact BK117.out⟩, ⟨by repeat (first | (with_reducible first | exact HB.out | apply bA | apply bN | apply bD | refine bS ?_ GE116.out | refine bS ?_ GE117.out) | exact HB.out)⟩⟩
        ·
         rw [if_neg c36] at H
         have c36b0 : (t118 == 4) = false := bQ c36
         have c36b1 : (t118 != 4) = true := bne_iff_ne.mpr c36
         have H' := mK H
         clear H
         go_wp2
         go_meet
         case rel => exact ⟨_, ((t118 == 8)), (by first | rfl | (simp; done) | (simp [*]; done)), H', ⟨by have := HJ2.out; have := HJ10.out; first | omega | exact Nat.le_refl _⟩, ⟨by (with_reducible repeat (first | refine kN ?_ _ | refine kD ?_ | refine kA ?_ _)); exact BK116.out⟩, ⟨by (with_reducible repeat (first | refine kN ?_ _ | refine kD ?_ | refine kA ?_ _)); exact BK117.out⟩, ⟨by repeat (first | (with_reducible first | exact HB.out | apply bA | apply bN | apply bD | refine bS ?_ GE116.out | refine bS ?_ GE117.out) | exact HB.out)⟩⟩
      case rest =>
       clear HC34
       (try clear c13); (try clear hcz7_0); (try clear hcz7_1); (try clear hcz7_2); (try clear hcz7_3); (try clear hcz7_4); (try clear hfz7_0); (try clear hfz7_1); (try clear hfz7_2); (try clear hfz7_3); (try clear hfz7_4)
       obtain ⟨kq, x35_33, rfl, HA, HJ33, BK116, BK117, HB⟩ := hcut
       cases kq with
       | zero => exact absurd HA.out (by simp [instr_Decode.j2])
       | succ kj33 =>
        have H := HA.out
        clear HA
        simp only [instr_Decode.j2] at H
        by_cases c37 : x35_33 = true
        ·
         subst c37
         have H1 : ((instr_Encode.f kj33 (wrap64 (a0 / 16777216)) x118001_2 x118002_2 0 (wrap64 (Go.bits .and .u32 a0 65535))).bind fun bt122 => (if bt122.2 = 0 then (if bt122.1 = a0 then (some ((wrap64 (a0 / 16777216)), x118001_2, x118002_2, 0, wrap64 (Go.bits .and .u32 a0 65535), 0)) else (some (0, 0, 0, 0, 0, 21))) else (some (0, 0, 0, 0, 0, 21)))) = some (r1, r2, r3, r4, r5, r6) := by rw [if_pos rfl] at H; exact H
         clear H
         have H := H1
         clear H1
         replace H := oB H
         obtain ⟨⟨t122, t123⟩, A380, H⟩ := H
         replace H : (if t123 = 0 then (if t122 = a0 then (some ((wrap64 (a0 / 16777216)), x118001_2, x118002_2, 0, wrap64 (Go.bits .and .u32 a0 65535), 0)) else (some (0, 0, 0, 0, 0, 21))) else (some (0, 0, 0, 0, 0, 21))) = some (r1, r2, r3, r4, r5, r6) := H
         have A38 := mK A380
         clear A380
         by_cases c39 : t123 = 0
         ·
          rw [if_pos c39] at H
          have c39b0 : (t123 == 0) = true := beq_iff_eq.mpr c39
          have c39b1 : (t123 != 0) = false := bR c39
          clear c39
          by_cases c40 : t122 = a0
          ·
           rw [if_pos c40] at H
           have c40b0 : (t122 == a0) = true := beq_iff_eq.mpr c40
           have c40b1 : (t122 != a0) = false := bR c40
           clear c40
           simp only [Option.some.injEq, Prod.mk.injEq] at H
           obtain ⟨rfl, rfl, rfl, rfl, rfl, rfl⟩ := H
           have hnb41 := NB117_116.out
           have hnc41 := NB116_117.out
           obtain ⟨hcz42_0, hcz42_1, hcz42_2, hcz42_3, hcz42_4, hfz42_0, hfz42_1, hfz42_2, hfz42_3, hfz42_4⟩ := cf5 BK117.out
           go_wp2_with (first | ((with_reducible refine gate_callee (f := 38) rfl ?_); refine goesL_ (some 57) rfl rfl Try.func38 (by kernel_rfl) rfl #[.agg #[.int .i64 (wrap64 (a0 / 16777216)), .int .i64 x118001_2, .int .i64 x118002_2, .int .i64 0, .int .i64 (wrap64 (Go.bits .and .u32 a0 65535))]] rfl (by (try simp only [List.map_toArray, List.map_cons, List.map_nil]); first | done | rfl) ?_; (with_reducible refine (instr_Encode.calls kj33 (wrap64 (a0 / 16777216)) x118001_2 x118002_2 0 (wrap64 (Go.bits .and .u32 a0 65535)) t122 t123 _ A38.out).mono ?_); rintro e w43 ⟨rfl, hb⟩; refine ⟨_, rfl, ?_⟩; have n0_ := mK (kB (g := gb116) (o := o5 0 0 0 0 0 24) (by (with_reducible repeat (first | refine kN ?_ _ | refine kD ?_ | refine kA ?_ _)); refine kR ?_ NB116_117.out _; (with_reducible repeat (first | refine kN ?_ _ | refine kD ?_ | refine kA ?_ _)); exact BK116.out) hb); have n1_ := mK (kB (g := gb117) (o := .cells #[.int .i64 (wrap64 (a0 / 16777216)), .int .i64 x118001_2, .int .i64 x118002_2, .int .i64 0, .int .i64 (wrap64 (Go.bits .and .u32 a0 65535))] 24 (0, 0)) (by (with_reducible repeat (first | refine kN ?_ _ | refine kD ?_ | refine kA ?_ _)); refine kP (cs := #[.int .i64 (wrap64 (a0 / 16777216)), .int .i64 x118001_2, .int .i64 x118002_2, .int .i64 0, .int .i64 0]) ?_ 4 _ rfl; (with_reducible repeat (first | refine kN ?_ _ | refine kD ?_ | refine kA ?_ _)); exact BK117.out) hb); have n2_ := mK (bP (by repeat (first | (with_reducible first | exact HB.out | apply bA | apply bN | apply bD | refine bS ?_ GE116.out | refine bS ?_ GE117.out) | exact HB.out)) hb); clear BK116; clear BK117; clear HB; have BK116 := n0_; have BK117 := n1_; have HB := n2_; clear n0_ n1_ n2_; (try clear hb); obtain ⟨hcz44_0, hcz44_1, hcz44_2, hcz44_3, hcz44_4, hfz44_0, hfz44_1, hfz44_2, hfz44_3, hfz44_4⟩ := cf5 BK117.out; obtain ⟨hcz45_0, hcz45_1, hcz45_2, hcz45_3, hcz45_4, hfz45_0, hfz45_1, hfz45_2, hfz45_3, hfz45_4⟩ := cf5 BK116.out))
           refine bodyPost_ret (results_ct rfl _ _ gb116 24 #[.int .i64 (wrap64 (a0 / 16777216)), .int .i64 x118001_2, .int .i64 x118002_2, .int .i64 0, .int .i64 (wrap64 (Go.bits .and .u32 a0 65535))] (0, 0) _ rfl (by (with_reducible repeat (first | refine kN ?_ _ | refine kD ?_ | refine kA ?_ _)); refine kP (cs := #[.int .i64 (wrap64 (a0 / 16777216)), .int .i64 x118001_2, .int .i64 x118002_2, .int .i64 0, .int .i64 0]) ?_ 4 _ rfl; (with_reducible repeat (first | refine kN ?_ _ | refine kD ?_ | refine kA ?_ _)); refine kP (cs := #[.int .i64 (wrap64 (a0 / 16777216)), .int .i64 x118001_2, .int .i64 x118002_2, .int .i64 0, .int .i64 0]) ?_ 3 _ rfl; (with_reducible repeat (first | refine kN ?_ _ | refine kD ?_ | refine kA ?_ _)); refine kP (cs := #[.int .i64 (wrap64 (a0 / 16777216)), .int .i64 x118001_2, .int .i64 0, .int .i64 0, .int .i64 0]) ?_ 2 _ rfl; (with_reducible repeat (first | refine kN ?_ _ | refine kD ?_ | refine kA ?_ _)); refine kP (cs := #[.int .i64 (wrap64 (a0 / 16777216)), .int .i64 0, .int .i64 0, .int .i64 0, .int .i64 0]) ?_ 1 _ rfl; (with_reducible repeat (first | refine kN ?_ _ | refine kD ?_ | refine kA ?_ _)); refine kP (cs := #[.int .i64 0, .int .i64 0, .int .i64 0, .int .i64 0, .int .i64 0]) ?_ 0 _ rfl; (with_reducible repeat (first | refine kN ?_ _ | refine kD ?_ | refine kA ?_ _)); exact BK116.out) Try.underlying24 rfl (by kernel_rfl)) rfl ?_
           exact ⟨by first | rfl | (simp [errW_none, errW_some] <;> rfl) | (simp [*, errW_none, errW_some] <;> rfl), by repeat (first | (with_reducible first | exact HB.out | apply bA | apply bN | apply bD | refine bS ?_ GE116.out | refine bS ?_ GE117.out) | exact HB.out)⟩
          ·
           rw [if_neg c40] at H
           have c40b0 : (t122 == a0) = false := bQ c40
           have c40b1 : (t122 != a0) = true := bne_iff_ne.mpr c40
           simp only [Option.some.injEq, Prod.mk.injEq] at H
           obtain ⟨rfl, rfl, rfl, rfl, rfl, rfl⟩ := H
           have hnb46 := NB117_116.out
           have hnc46 := NB116_117.out
           obtain ⟨hcz47_0, hcz47_1, hcz47_2, hcz47_3, hcz47_4, hfz47_0, hfz47_1, hfz47_2, hfz47_3, hfz47_4⟩ := cf5 BK117.out
           go_wp2_with (first | ((with_reducible refine gate_callee (f := 38) rfl ?_); refine goesL_ (some 57) rfl rfl Try.func38 (by kernel_rfl) rfl #[.agg #[.int .i64 (wrap64 (a0 / 16777216)), .int .i64 x118001_2, .int .i64 x118002_2, .int .i64 0, .int .i64 (wrap64 (Go.bits .and .u32 a0 65535))]] rfl (by (try simp only [List.map_toArray, List.map_cons, List.map_nil]); first | done | rfl) ?_; (with_reducible refine (instr_Encode.calls kj33 (wrap64 (a0 / 16777216)) x118001_2 x118002_2 0 (wrap64 (Go.bits .and .u32 a0 65535)) t122 t123 _ A38.out).mono ?_); rintro e w48 ⟨rfl, hb⟩; refine ⟨_, rfl, ?_⟩; have n0_ := mK (kB (g := gb116) (o := o5 0 0 0 0 0 24) (by (with_reducible repeat (first | refine kN ?_ _ | refine kD ?_ | refine kA ?_ _)); refine kR ?_ NB116_117.out _; (with_reducible repeat (first | refine kN ?_ _ | refine kD ?_ | refine kA ?_ _)); exact BK116.out) hb); have n1_ := mK (kB (g := gb117) (o := .cells #[.int .i64 (wrap64 (a0 / 16777216)), .int .i64 x118001_2, .int .i64 x118002_2, .int .i64 0, .int .i64 (wrap64 (Go.bits .and .u32 a0 65535))] 24 (0, 0)) (by (with_reducible repeat (first | refine kN ?_ _ | refine kD ?_ | refine kA ?_ _)); refine kP (cs := #[.int .i64 (wrap64 (a0 / 16777216)), .int .i64 x118001_2, .int .i64 x118002_2, .int .i64 0, .int .i64 0]) ?_ 4 _ rfl; (with_reducible repeat (first | refine kN ?_ _ | refine kD ?_ | refine kA ?_ _)); exact BK117.out) hb); have n2_ := mK (bP (by repeat (first | (with_reducible first | exact HB.out | apply bA | apply bN | apply bD | refine bS ?_ GE116.out | refine bS ?_ GE117.out) | exact HB.out)) hb); clear BK116; clear BK117; clear HB; have BK116 := n0_; have BK117 := n1_; have HB := n2_; clear n0_ n1_ n2_; (try clear hb); obtain ⟨hcz49_0, hcz49_1, hcz49_2, hcz49_3, hcz49_4, hfz49_0, hfz49_1, hfz49_2, hfz49_3, hfz49_4⟩ := cf5 BK116.out))
           refine bodyPost_ret (results_ct rfl _ _ gb116 24 #[.int .i64 0, .int .i64 0, .int .i64 0, .int .i64 0, .int .i64 0] (0, 0) _ rfl (by (with_reducible repeat (first | refine kN ?_ _ | refine kD ?_ | refine kA ?_ _)); refine kP (cs := #[.int .i64 0, .int .i64 0, .int .i64 0, .int .i64 0, .int .i64 0]) ?_ 4 _ rfl; (with_reducible repeat (first | refine kN ?_ _ | refine kD ?_ | refine kA ?_ _)); refine kP (cs := #[.int .i64 0, .int .i64 0, .int .i64 0, .int .i64 0, .int .i64 0]) ?_ 3 _ rfl; (with_reducible repeat (first | refine kN ?_ _ | refine kD ?_ | refine kA ?_ _)); refine kP (cs := #[.int .i64 0, .int .i64 0, .int .i64 0, .int .i64 0, .int .i64 0]) ?_ 2 _ rfl; (with_reducible repeat (first | refine kN ?_ _ | refine kD ?_ | refine kA ?_ _)); refine kP (cs := #[.int .i64 0, .int .i64 0, .int .i64 0, .int .i64 0, .int .i64 0]) ?_ 1 _ rfl; (with_reducible repeat (first | refine kN ?_ _ | refine kD ?_ | refine kA ?_ _)); refine kP (cs := #[.int .i64 0, .int .i64 0, .int .i64 0, .int .i64 0, .int .i64 0]) ?_ 0 _ rfl; (with_reducible repeat (first | refine kN ?_ _ | refine kD ?_ | refine kA ?_ _)); exact BK116.out) Try.underlying24 rfl (by kernel_rfl)) rfl ?_
           exact ⟨by first | rfl | (simp [errW_none, errW_some] <;> rfl) | (simp [*, errW_none, errW_some] <;> rfl), by repeat (first | (with_reducible first | exact HB.out | apply bA | apply bN | apply bD | refine bS ?_ GE116.out | refine bS ?_ GE117.out) | exact HB.out)⟩
         ·
          rw [if_neg c39] at H
          have c39b0 : (t123 == 0) = false := bQ c39
          have c39b1 : (t123 != 0) = true := bne_iff_ne.mpr c39
          simp only [Option.some.injEq, Prod.mk.injEq] at H
          obtain ⟨rfl, rfl, rfl, rfl, rfl, rfl⟩ := H
          have hnb50 := NB117_116.out
          have hnc50 := NB116_117.out
          obtain ⟨hcz51_0, hcz51_1, hcz51_2, hcz51_3, hcz51_4, hfz51_0, hfz51_1, hfz51_2, hfz51_3, hfz51_4⟩ := cf5 BK117.out
          go_wp2_with (first | ((with_reducible refine gate_callee (f := 38) rfl ?_); refine goesL_ (some 57) rfl rfl Try.func38 (by kernel_rfl) rfl #[.agg #[.int .i64 (wrap64 (a0 / 16777216)), .int .i64 x118001_2, .int .i64 x118002_2, .int .i64 0, .int .i64 (wrap64 (Go.bits .and .u32 a0 65535))]] rfl (by (try simp only [List.map_toArray, List.map_cons, List.map_nil]); first | done | rfl) ?_; (with_reducible refine (instr_Encode.calls kj33 (wrap64 (a0 / 16777216)) x118001_2 x118002_2 0 (wrap64 (Go.bits .and .u32 a0 65535)) t122 t123 _ A38.out).mono ?_); rintro e w52 ⟨rfl, hb⟩; refine ⟨_, rfl, ?_⟩; have n0_ := mK (kB (g := gb116) (o := o5 0 0 0 0 0 24) (by (with_reducible repeat (first | refine kN ?_ _ | refine kD ?_ | refine kA ?_ _)); refine kR ?_ NB116_117.out _; (with_reducible repeat (first | refine kN ?_ _ | refine kD ?_ | refine kA ?_ _)); exact BK116.out) hb); have n1_ := mK (kB (g := gb117) (o := .cells #[.int .i64 (wrap64 (a0 / 16777216)), .int .i64 x118001_2, .int .i64 x118002_2, .int .i64 0, .int .i64 (wrap64 (Go.bits .and .u32 a0 65535))] 24 (0, 0)) (by (with_reducible repeat (first | refine kN ?_ _ | refine kD ?_ | refine kA ?_ _)); refine kP (cs := #[.int .i64 (wrap64 (a0 / 16777216)), .int .i64 x118001_2, .int .i64 x118002_2, .int .i64 0, .int .i64 0]) ?_ 4 _ rfl; (with_reducible repeat (first | refine kN ?_ _ | refine kD ?_ | refine kA ?_ _)); exact BK117.out) hb); have n2_ := mK (bP (by repeat (first | (with_reducible first | exact HB.out | apply bA | apply bN | apply bD | refine bS ?_ GE116.out | refine bS ?_ GE117.out) | exact HB.out)) hb); clear BK116; clear BK117; clear HB; have BK116 := n0_; have BK117 := n1_; have HB := n2_; clear n0_ n1_ n2_; (try clear hb); obtain ⟨hcz53_0, hcz53_1, hcz53_2, hcz53_3, hcz53_4, hfz53_0, hfz53_1, hfz53_2, hfz53_3, hfz53_4⟩ := cf5 BK116.out))
          refine bodyPost_ret (results_ct rfl _ _ gb116 24 #[.int .i64 0, .int .i64 0, .int .i64 0, .int .i64 0, .int .i64 0] (0, 0) _ rfl (by (with_reducible repeat (first | refine kN ?_ _ | refine kD ?_ | refine kA ?_ _)); refine kP (cs := #[.int .i64 0, .int .i64 0, .int .i64 0, .int .i64 0, .int .i64 0]) ?_ 4 _ rfl; (with_reducible repeat (first | refine kN ?_ _ | refine kD ?_ | refine kA ?_ _)); refine kP (cs := #[.int .i64 0, .int .i64 0, .int .i64 0, .int .i64 0, .int .i64 0]) ?_ 3 _ rfl; (with_reducible repeat (first | refine kN ?_ _ | refine kD ?_ | refine kA ?_ _)); refine kP (cs := #[.int .i64 0, .int .i64 0, .int .i64 0, .int .i64 0, .int .i64 0]) ?_ 2 _ rfl; (with_reducible repeat (first | refine kN ?_ _ | refine kD ?_ | refine kA ?_ _)); refine kP (cs := #[.int .i64 0, .int .i64 0, .int .i64 0, .int .i64 0, .int .i64 0]) ?_ 1 _ rfl; (with_reducible repeat (first | refine kN ?_ _ | refine kD ?_ | refine kA ?_ _)); refine kP (cs := #[.int .i64 0, .int .i64 0, .int .i64 0, .int .i64 0, .int .i64 0]) ?_ 0 _ rfl; (with_reducible repeat (first | refine kN ?_ _ | refine kD ?_ | refine kA ?_ _)); exact BK116.out) Try.underlying24 rfl (by kernel_rfl)) rfl ?_
          exact ⟨by first | rfl | (simp [errW_none, errW_some] <;> rfl) | (simp [*, errW_none, errW_some] <;> rfl), by repeat (first | (with_reducible first | exact HB.out | apply bA | apply bN | apply bD | refine bS ?_ GE116.out | refine bS ?_ GE117.out) | exact HB.out)⟩
        ·
         replace c37 := Bool.eq_false_iff.mpr c37
         subst c37
         have H1 : (if t118 = 7 then ((word_Sext.f a0 24).bind fun t124 => ((instr_Encode.f kj33 (wrap64 (a0 / 16777216)) x118001_2 x118002_2 0 (wrap64 (t124))).bind fun bt125 => (if bt125.2 = 0 then (if bt125.1 = a0 then (some ((wrap64 (a0 / 16777216)), x118001_2, x118002_2, 0, wrap64 (t124), 0)) else (some (0, 0, 0, 0, 0, 21))) else (some (0, 0, 0, 0, 0, 21))))) else (if t118 = 5 then ((instr_Encode.f kj33 (wrap64 (a0 / 16777216)) x118001_2 x118002_2 (wrap64 (Go.bits .and .u32 a0 15)) 0).bind fun bt127 => (if bt127.2 = 0 then (if bt127.1 = a0 then (some ((wrap64 (a0 / 16777216)), x118001_2, x118002_2, wrap64 (Go.bits .and .u32 a0 15), 0, 0)) else (some (0, 0, 0, 0, 0, 21))) else (some (0, 0, 0, 0, 0, 21)))) else ((instr_Encode.f kj33 (wrap64 (a0 / 16777216)) x118001_2 x118002_2 0 0).bind fun bt129 => (if bt129.2 = 0 then (if bt129.1 = a0 then (some ((wrap64 (a0 / 16777216)), x118001_2, x118002_2, 0, 0, 0)) else (some (0, 0, 0, 0, 0, 21))) else (some (0, 0, 0, 0, 0, 21)))))) = some (r1, r2, r3, r4, r5, r6) := by rw [if_neg (show ¬ (false = true) by decide)] at H; exact H
         clear H
         have H := H1
         clear H1
         by_cases c54 : t118 = 7
         ·
          rw [if_pos c54] at H
          have c54b0 : (t118 == 7) = true := beq_iff_eq.mpr c54
          have c54b1 : (t118 != 7) = false := bR c54
          clear c54
          replace H := oB H
          obtain ⟨t124, A550, H⟩ := H
          replace H : ((instr_Encode.f kj33 (wrap64 (a0 / 16777216)) x118001_2 x118002_2 0 (wrap64 (t124))).bind fun bt125 => (if bt125.2 = 0 then (if bt125.1 = a0 then (some ((wrap64 (a0 / 16777216)), x118001_2, x118002_2, 0, wrap64 (t124), 0)) else (some (0, 0, 0, 0, 0, 21))) else (some (0, 0, 0, 0, 0, 21)))) = some (r1, r2, r3, r4, r5, r6) := H
          have A55 := mK A550
          clear A550
          replace H := oB H
          obtain ⟨⟨t125, t126⟩, A560, H⟩ := H
          replace H : (if t126 = 0 then (if t125 = a0 then (some ((wrap64 (a0 / 16777216)), x118001_2, x118002_2, 0, wrap64 (t124), 0)) else (some (0, 0, 0, 0, 0, 21))) else (some (0, 0, 0, 0, 0, 21))) = some (r1, r2, r3, r4, r5, r6) := H
          have A56 := mK A560
          clear A560
          by_cases c57 : t126 = 0
          ·
           rw [if_pos c57] at H
           have c57b0 : (t126 == 0) = true := beq_iff_eq.mpr c57
           have c57b1 : (t126 != 0) = false := bR c57
           clear c57
           by_cases c58 : t125 = a0
           ·
            rw [if_pos c58] at H
            have c58b0 : (t125 == a0) = true := beq_iff_eq.mpr c58
            have c58b1 : (t125 != a0) = false := bR c58
            clear c58
            simp only [Option.some.injEq, Prod.mk.injEq] at H
            obtain ⟨rfl, rfl, rfl, rfl, rfl, rfl⟩ := H
            go_wp2_with (first | ((with_reducible refine gate_callee (f := 37) rfl ?_); refine goesL_ (some 46) rfl rfl Try.func37 (by kernel_rfl) rfl #[.int .u32 a0, .int .i64 24] rfl (by (try simp only [List.map_toArray, List.map_cons, List.map_nil]); first | done | rfl) ?_; (with_reducible refine (word_Sext.calls a0 24 t124 _ A55.out).mono ?_); rintro e w59 ⟨rfl, hb⟩; refine ⟨_, rfl, ?_⟩; have n0_ := mK (kB (g := gb116) (o := o5 0 0 0 0 0 24) (by (with_reducible repeat (first | refine kN ?_ _ | refine kD ?_ | refine kA ?_ _)); exact BK116.out) hb); have n1_ := mK (kB (g := gb117) (o := .cells #[.int .i64 (wrap64 (a0 / 16777216)), .int .i64 x118001_2, .int .i64 x118002_2, .int .i64 0, .int .i64 0] 24 (0, 0)) (by (with_reducible repeat (first | refine kN ?_ _ | refine kD ?_ | refine kA ?_ _)); exact BK117.out) hb); have n2_ := mK (bP (by repeat (first | (with_reducible first | exact HB.out | apply bA | apply bN | apply bD | refine bS ?_ GE116.out | refine bS ?_ GE117.out) | exact HB.out)) hb); clear BK116; clear BK117; clear HB; have BK116 := n0_; have BK117 := n1_; have HB := n2_; clear n0_ n1_ n2_; (try clear hb); have hnb60 := NB117_116.out; have hnc60 := NB116_117.out; obtain ⟨hcz61_0, hcz61_1, hcz61_2, hcz61_3, hcz61_4, hfz61_0, hfz61_1, hfz61_2, hfz61_3, hfz61_4⟩ := cf5 BK117.out) | ((with_reducible refine gate_callee (f := 38) rfl ?_); refine goesL_ (some 57) rfl rfl Try.func38 (by kernel_rfl) rfl #[.agg #[.int .i64 (wrap64 (a0 / 16777216)), .int .i64 x118001_2, .int .i64 x118002_2, .int .i64 0, .int .i64 (wrap64 (t124))]] rfl (by (try simp only [List.map_toArray, List.map_cons, List.map_nil]); first | done | rfl) ?_; (with_reducible refine (instr_Encode.calls kj33 (wrap64 (a0 / 16777216)) x118001_2 x118002_2 0 (wrap64 (t124)) t125 t126 _ A56.out).mono ?_); rintro e w62 ⟨rfl, hb⟩; refine ⟨_, rfl, ?_⟩; have n0_ := mK (kB (g := gb116) (o := o5 0 0 0 0 0 24) (by (with_reducible repeat (first | refine kN ?_ _ | refine kD ?_ | refine kA ?_ _)); refine kR ?_ NB116_117.out _; (with_reducible repeat (first | refine kN ?_ _ | refine kD ?_ | refine kA ?_ _)); exact BK116.out) hb); have n1_ := mK (kB (g := gb117) (o := .cells #[.int .i64 (wrap64 (a0 / 16777216)), .int .i64 x118001_2, .int .i64 x118002_2, .int .i64 0, .int .i64 (wrap64 (t124))] 24 (0, 0)) (by (with_reducible repeat (first | refine kN ?_ _ | refine kD ?_ | refine kA ?_ _)); refine kP (cs := #[.int .i64 (wrap64 (a0 / 16777216)), .int .i64 x118001_2, .int .i64 x118002_2, .int .i64 0, .int .i64 0]) ?_ 4 _ rfl; (with_reducible repeat (first | refine kN ?_ _ | refine kD ?_ | refine kA ?_ _)); exact BK117.out) hb); have n2_ := mK (bP (by repeat (first | (with_reducible first | exact HB.out | apply bA | apply bN | apply bD | refine bS ?_ GE116.out | refine bS ?_ GE117.out) | exact HB.out)) hb); clear BK116; clear BK117; clear HB; have BK116 := n0_; have BK117 := n1_; have HB := n2_; clear n0_ n1_ n2_; (try clear hb); obtain ⟨hcz63_0, hcz63_1, hcz63_2, hcz63_3, hcz63_4, hfz63_0, hfz63_1, hfz63_2, hfz63_3, hfz63_4⟩ := cf5 BK117.out; obtain ⟨hcz64_0, hcz64_1, hcz64_2, hcz64_3, hcz64_4, hfz64_0, hfz64_1, hfz64_2, hfz64_3, hfz64_4⟩ := cf5 BK116.out))
            refine bodyPost_ret (results_ct rfl _ _ gb116 24 #[.int .i64 (wrap64 (a0 / 16777216)), .int .i64 x118001_2, .int .i64 x118002_2, .int .i64 0, .int .i64 (wrap64 (t124))] (0, 0) _ rfl (by (with_reducible repeat (first | refine kN ?_ _ | refine kD ?_ | refine kA ?_ _)); refine kP (cs := #[.int .i64 (wrap64 (a0 / 16777216)), .int .i64 x118001_2, .int .i64 x118002_2, .int .i64 0, .int .i64 0]) ?_ 4 _ rfl; (with_reducible repeat (first | refine kN ?_ _ | refine kD ?_ | refine kA ?_ _)); refine kP (cs := #[.int .i64 (wrap64 (a0 / 16777216)), .int .i64 x118001_2, .int .i64 x118002_2, .int .i64 0, .int .i64 0]) ?_ 3 _ rfl; (with_reducible repeat (first | refine kN ?_ _ | refine kD ?_ | refine kA ?_ _)); refine kP (cs := #[.int .i64 (wrap64 (a0 / 16777216)), .int .i64 x118001_2, .int .i64 0, .int .i64 0, .int .i64 0]) ?_ 2 _ rfl; (with_reducible repeat (first | refine kN ?_ _ | refine kD ?_ | refine kA ?_ _)); refine kP (cs := #[.int .i64 (wrap64 (a0 / 16777216)), .int .i64 0, .int .i64 0, .int .i64 0, .int .i64 0]) ?_ 1 _ rfl; (with_reducible repeat (first | refine kN ?_ _ | refine kD ?_ | refine kA ?_ _)); refine kP (cs := #[.int .i64 0, .int .i64 0, .int .i64 0, .int .i64 0, .int .i64 0]) ?_ 0 _ rfl; (with_reducible repeat (first | refine kN ?_ _ | refine kD ?_ | refine kA ?_ _)); exact BK116.out) Try.underlying24 rfl (by kernel_rfl)) rfl ?_
            exact ⟨by first | rfl | (simp [errW_none, errW_some] <;> rfl) | (simp [*, errW_none, errW_some] <;> rfl), by repeat (first | (with_reducible first | exact HB.out | apply bA | apply bN | apply bD | refine bS ?_ GE116.out | refine bS ?_ GE117.out) | exact HB.out)⟩
           ·
            rw [if_neg c58] at H
            have c58b0 : (t125 == a0) = false := bQ c58
            have c58b1 : (t125 != a0) = true := bne_iff_ne.mpr c58
            simp only [Option.some.injEq, Prod.mk.injEq] at H
            obtain ⟨rfl, rfl, rfl, rfl, rfl, rfl⟩ := H
            go_wp2_with (first | ((with_reducible refine gate_callee (f := 37) rfl ?_); refine goesL_ (some 46) rfl rfl Try.func37 (by kernel_rfl) rfl #[.int .u32 a0, .int .i64 24] rfl (by (try simp only [List.map_toArray, List.map_cons, List.map_nil]); first | done | rfl) ?_; (with_reducible refine (word_Sext.calls a0 24 t124 _ A55.out).mono ?_); rintro e w65 ⟨rfl, hb⟩; refine ⟨_, rfl, ?_⟩; have n0_ := mK (kB (g := gb116) (o := o5 0 0 0 0 0 24) (by (with_reducible repeat (first | refine kN ?_ _ | refine kD ?_ | refine kA ?_ _)); exact BK116.out) hb); have n1_ := mK (kB (g := gb117) (o := .cells #[.int .i64 (wrap64 (a0 / 16777216)), .int .i64 x118001_2, .int .i64 x118002_2, .int .i64 0, .int .i64 0] 24 (0, 0)) (by (with_reducible repeat (first | refine kN ?_ _ | refine kD ?_ | refine kA ?_ _)); exact BK117.out) hb); have n2_ := mK (bP (by repeat (first | (with_reducible first | exact HB.out | apply bA | apply bN | apply bD | refine bS ?_ GE116.out | refine bS ?_ GE117.out) | exact HB.out)) hb); clear BK116; clear BK117; clear HB; have BK116 := n0_; have BK117 := n1_; have HB := n2_; clear n0_ n1_ n2_; (try clear hb); have hnb66 := NB117_116.out; have hnc66 := NB116_117.out; obtain ⟨hcz67_0, hcz67_1, hcz67_2, hcz67_3, hcz67_4, hfz67_0, hfz67_1, hfz67_2, hfz67_3, hfz67_4⟩ := cf5 BK117.out) | ((with_reducible refine gate_callee (f := 38) rfl ?_); refine goesL_ (some 57) rfl rfl Try.func38 (by kernel_rfl) rfl #[.agg #[.int .i64 (wrap64 (a0 / 16777216)), .int .i64 x118001_2, .int .i64 x118002_2, .int .i64 0, .int .i64 (wrap64 (t124))]] rfl (by (try simp only [List.map_toArray, List.map_cons, List.map_nil]); first | done | rfl) ?_; (with_reducible refine (instr_Encode.calls kj33 (wrap64 (a0 / 16777216)) x118001_2 x118002_2 0 (wrap64 (t124)) t125 t126 _ A56.out).mono ?_); rintro e w68 ⟨rfl, hb⟩; refine ⟨_, rfl, ?_⟩; have n0_ := mK (kB (g := gb116) (o := o5 0 0 0 0 0 24) (by (with_reducible repeat (first | refine kN ?_ _ | refine kD ?_ | refine kA ?_ _)); refine kR ?_ NB116_117.out _; (with_reducible repeat (first | refine kN ?_ _ | refine kD ?_ | refine kA ?_ _)); exact BK116.out) hb); have n1_ := mK (kB (g := gb117) (o := .cells #[.int .i64 (wrap64 (a0 / 16777216)), .int .i64 x118001_2, .int .i64 x118002_2, .int .i64 0, .int .i64 (wrap64 (t124))] 24 (0, 0)) (by (with_reducible repeat (first | refine kN ?_ _ | refine kD ?_ | refine kA ?_ _)); refine kP (cs := #[.int .i64 (wrap64 (a0 / 16777216)), .int .i64 x118001_2, .int .i64 x118002_2, .int .i64 0, .int .i64 0]) ?_ 4 _ rfl; (with_reducible repeat (first | refine kN ?_ _ | refine kD ?_ | refine kA ?_ _)); exact BK117.out) hb); have n2_ := mK (bP (by repeat (first | (with_reducible first | exact HB.out | apply bA | apply bN | apply bD | refine bS ?_ GE116.out | refine bS ?_ GE117.out) | exact HB.out)) hb); clear BK116; clear BK117; clear HB; have BK116 := n0_; have BK117 := n1_; have HB := n2_; clear n0_ n1_ n2_; (try clear hb); obtain ⟨hcz69_0, hcz69_1, hcz69_2, hcz69_3, hcz69_4, hfz69_0, hfz69_1, hfz69_2, hfz69_3, hfz69_4⟩ := cf5 BK116.out))
            refine bodyPost_ret (results_ct rfl _ _ gb116 24 #[.int .i64 0, .int .i64 0, .int .i64 0, .int .i64 0, .int .i64 0] (0, 0) _ rfl (by (with_reducible repeat (first | refine kN ?_ _ | refine kD ?_ | refine kA ?_ _)); refine kP (cs := #[.int .i64 0, .int .i64 0, .int .i64 0, .int .i64 0, .int .i64 0]) ?_ 4 _ rfl; (with_reducible repeat (first | refine kN ?_ _ | refine kD ?_ | refine kA ?_ _)); refine kP (cs := #[.int .i64 0, .int .i64 0, .int .i64 0, .int .i64 0, .int .i64 0]) ?_ 3 _ rfl; (with_reducible repeat (first | refine kN ?_ _ | refine kD ?_ | refine kA ?_ _)); refine kP (cs := #[.int .i64 0, .int .i64 0, .int .i64 0, .int .i64 0, .int .i64 0]) ?_ 2 _ rfl; (with_reducible repeat (first | refine kN ?_ _ | refine kD ?_ | refine kA ?_ _)); refine kP (cs := #[.int .i64 0, .int .i64 0, .int .i64 0, .int .i64 0, .int .i64 0]) ?_ 1 _ rfl; (with_reducible repeat (first | refine kN ?_ _ | refine kD ?_ | refine kA ?_ _)); refine kP (cs := #[.int .i64 0, .int .i64 0, .int .i64 0, .int .i64 0, .int .i64 0]) ?_ 0 _ rfl; (with_reducible repeat (first | refine kN ?_ _ | refine kD ?_ | refine kA ?_ _)); exact BK116.out) Try.underlying24 rfl (by kernel_rfl)) rfl ?_
            exact ⟨by first | rfl | (simp [errW_none, errW_some] <;> rfl) | (simp [*, errW_none, errW_some] <;> rfl), by repeat (first | (with_reducible first | exact HB.out | apply bA | apply bN | apply bD | refine bS ?_ GE116.out | refine bS ?_ GE117.out) | exact HB.out)⟩
          ·
           rw [if_neg c57] at H
           have c57b0 : (t126 == 0) = false := bQ c57
           have c57b1 : (t126 != 0) = true := bne_iff_ne.mpr c57
           simp only [Option.some.injEq, Prod.mk.injEq] at H
           obtain ⟨rfl, rfl, rfl, rfl, rfl, rfl⟩ := H
           go_wp2_with (first | ((with_reducible refine gate_callee (f := 37) rfl ?_); refine goesL_ (some 46) rfl rfl Try.func37 (by kernel_rfl) rfl #[.int .u32 a0, .int .i64 24] rfl (by (try simp only [List.map_toArray, List.map_cons, List.map_nil]); first | done | rfl) ?_; (with_reducible refine (word_Sext.calls a0 24 t124 _ A55.out).mono ?_); rintro e w70 ⟨rfl, hb⟩; refine ⟨_, rfl, ?_⟩; have n0_ := mK (kB (g := gb116) (o := o5 0 0 0 0 0 24) (by (with_reducible repeat (first | refine kN ?_ _ | refine kD ?_ | refine kA ?_ _)); exact BK116.out) hb); have n1_ := mK (kB (g := gb117) (o := .cells #[.int .i64 (wrap64 (a0 / 16777216)), .int .i64 x118001_2, .int .i64 x118002_2, .int .i64 0, .int .i64 0] 24 (0, 0)) (by (with_reducible repeat (first | refine kN ?_ _ | refine kD ?_ | refine kA ?_ _)); exact BK117.out) hb); have n2_ := mK (bP (by repeat (first | (with_reducible first | exact HB.out | apply bA | apply bN | apply bD | refine bS ?_ GE116.out | refine bS ?_ GE117.out) | exact HB.out)) hb); clear BK116; clear BK117; clear HB; have BK116 := n0_; have BK117 := n1_; have HB := n2_; clear n0_ n1_ n2_; (try clear hb); have hnb71 := NB117_116.out; have hnc71 := NB116_117.out; obtain ⟨hcz72_0, hcz72_1, hcz72_2, hcz72_3, hcz72_4, hfz72_0, hfz72_1, hfz72_2, hfz72_3, hfz72_4⟩ := cf5 BK117.out) | ((with_reducible refine gate_callee (f := 38) rfl ?_); refine goesL_ (some 57) rfl rfl Try.func38 (by kernel_rfl) rfl #[.agg #[.int .i64 (wrap64 (a0 / 16777216)), .int .i64 x118001_2, .int .i64 x118002_2, .int .i64 0, .int .i64 (wrap64 (t124))]] rfl (by (try simp only [List.map_toArray, List.map_cons, List.map_nil]); first | done | rfl) ?_; (with_reducible refine (instr_Encode.calls kj33 (wrap64 (a0 / 16777216)) x118001_2 x118002_2 0 (wrap64 (t124)) t125 t126 _ A56.out).mono ?_); rintro e w73 ⟨rfl, hb⟩; refine ⟨_, rfl, ?_⟩; have n0_ := mK (kB (g := gb116) (o := o5 0 0 0 0 0 24) (by (with_reducible repeat (first | refine kN ?_ _ | refine kD ?_ | refine kA ?_ _)); refine kR ?_ NB116_117.out _; (with_reducible repeat (first | refine kN ?_ _ | refine kD ?_ | refine kA ?_ _)); exact BK116.out) hb); have n1_ := mK (kB (g := gb117) (o := .cells #[.int .i64 (wrap64 (a0 / 16777216)), .int .i64 x118001_2, .int .i64 x118002_2, .int .i64 0, .int .i64 (wrap64 (t124))] 24 (0, 0)) (by (with_reducible repeat (first | refine kN ?_ _ | refine kD ?_ | refine kA ?_ _)); refine kP (cs := #[.int .i64 (wrap64 (a0 / 16777216)), .int .i64 x118001_2, .int .i64 x118002_2, .int .i64 0, .int .i64 0]) ?_ 4 _ rfl; (with_reducible repeat (first | refine kN ?_ _ | refine kD ?_ | refine kA ?_ _)); exact BK117.out) hb); have n2_ := mK (bP (by repeat (first | (with_reducible first | exact HB.out | apply bA | apply bN | apply bD | refine bS ?_ GE116.out | refine bS ?_ GE117.out) | exact HB.out)) hb); clear BK116; clear BK117; clear HB; have BK116 := n0_; have BK117 := n1_; have HB := n2_; clear n0_ n1_ n2_; (try clear hb); obtain ⟨hcz74_0, hcz74_1, hcz74_2, hcz74_3, hcz74_4, hfz74_0, hfz74_1, hfz74_2, hfz74_3, hfz74_4⟩ := cf5 BK116.out))
           refine bodyPost_ret (results_ct rfl _ _ gb116 24 #[.int .i64 0, .int .i64 0, .int .i64 0, .int .i64 0, .int .i64 0] (0, 0) _ rfl (by (with_reducible repeat (first | refine kN ?_ _ | refine kD ?_ | refine kA ?_ _)); refine kP (cs := #[.int .i64 0, .int .i64 0, .int .i64 0, .int .i64 0, .int .i64 0]) ?_ 4 _ rfl; (with_reducible repeat (first | refine kN ?_ _ | refine kD ?_ | refine kA ?_ _)); refine kP (cs := #[.int .i64 0, .int .i64 0, .int .i64 0, .int .i64 0, .int .i64 0]) ?_ 3 _ rfl; (with_reducible repeat (first | refine kN ?_ _ | refine kD ?_ | refine kA ?_ _)); refine kP (cs := #[.int .i64 0, .int .i64 0, .int .i64 0, .int .i64 0, .int .i64 0]) ?_ 2 _ rfl; (with_reducible repeat (first | refine kN ?_ _ | refine kD ?_ | refine kA ?_ _)); refine kP (cs := #[.int .i64 0, .int .i64 0, .int .i64 0, .int .i64 0, .int .i64 0]) ?_ 1 _ rfl; (with_reducible repeat (first | refine kN ?_ _ | refine kD ?_ | refine kA ?_ _)); refine kP (cs := #[.int .i64 0, .int .i64 0, .int .i64 0, .int .i64 0, .int .i64 0]) ?_ 0 _ rfl; (with_reducible repeat (first | refine kN ?_ _ | refine kD ?_ | refine kA ?_ _)); exact BK116.out) Try.underlying24 rfl (by kernel_rfl)) rfl ?_
           exact ⟨by first | rfl | (simp [errW_none, errW_some] <;> rfl) | (simp [*, errW_none, errW_some] <;> rfl), by repeat (first | (with_reducible first | exact HB.out | apply bA | apply bN | apply bD | refine bS ?_ GE116.out | refine bS ?_ GE117.out) | exact HB.out)⟩
         ·
          rw [if_neg c54] at H
          have c54b0 : (t118 == 7) = false := bQ c54
          have c54b1 : (t118 != 7) = true := bne_iff_ne.mpr c54
          by_cases c75 : t118 = 5
          ·
           rw [if_pos c75] at H
           have c75b0 : (t118 == 5) = true := beq_iff_eq.mpr c75
           have c75b1 : (t118 != 5) = false := bR c75
           clear c75
           replace H := oB H
           obtain ⟨⟨t127, t128⟩, A760, H⟩ := H
           replace H : (if t128 = 0 then (if t127 = a0 then (some ((wrap64 (a0 / 16777216)), x118001_2, x118002_2, wrap64 (Go.bits .and .u32 a0 15), 0, 0)) else (some (0, 0, 0, 0, 0, 21))) else (some (0, 0, 0, 0, 0, 21))) = some (r1, r2, r3, r4, r5, r6) := H
           have A76 := mK A760
           clear A760
           by_cases c77 : t128 = 0
           ·
            rw [if_pos c77] at H
            have c77b0 : (t128 == 0) = true := beq_iff_eq.mpr c77
            have c77b1 : (t128 != 0) = false := bR c77
            clear c77
            by_cases c78 : t127 = a0
            ·
             rw [if_pos c78] at H
             have c78b0 : (t127 == a0) = true := beq_iff_eq.mpr c78
             have c78b1 : (t127 != a0) = false := bR c78
             clear c78
             simp only [Option.some.injEq, Prod.mk.injEq] at H
             obtain ⟨rfl, rfl, rfl, rfl, rfl, rfl⟩ := H
             have hnb79 := NB117_116.out
             have hnc79 := NB116_117.out
             obtain ⟨hcz80_0, hcz80_1, hcz80_2, hcz80_3, hcz80_4, hfz80_0, hfz80_1, hfz80_2, hfz80_3, hfz80_4⟩ := cf5 BK117.out
             go_wp2_with (first | ((with_reducible refine gate_callee (f := 38) rfl ?_); refine goesL_ (some 57) rfl rfl Try.func38 (by kernel_rfl) rfl #[.agg #[.int .i64 (wrap64 (a0 / 16777216)), .int .i64 x118001_2, .int .i64 x118002_2, .int .i64 (wrap64 (Go.bits .and .u32 a0 15)), .int .i64 0]] rfl (by (try simp only [List.map_toArray, List.map_cons, List.map_nil]); first | done | rfl) ?_; (with_reducible refine (instr_Encode.calls kj33 (wrap64 (a0 / 16777216)) x118001_2 x118002_2 (wrap64 (Go.bits .and .u32 a0 15)) 0 t127 t128 _ A76.out).mono ?_); rintro e w81 ⟨rfl, hb⟩; refine ⟨_, rfl, ?_⟩; have n0_ := mK (kB (g := gb116) (o := o5 0 0 0 0 0 24) (by (with_reducible repeat (first | refine kN ?_ _ | refine kD ?_ | refine kA ?_ _)); refine kR ?_ NB116_117.out _; (with_reducible repeat (first | refine kN ?_ _ | refine kD ?_ | refine kA ?_ _)); exact BK116.out) hb); have n1_ := mK (kB (g := gb117) (o := .cells #[.int .i64 (wrap64 (a0 / 16777216)), .int .i64 x118001_2, .int .i64 x118002_2, .int .i64 (wrap64 (Go.bits .and .u32 a0 15)), .int .i64 0] 24 (0, 0)) (by (with_reducible repeat (first | refine kN ?_ _ | refine kD ?_ | refine kA ?_ _)); refine kP (cs := #[.int .i64 (wrap64 (a0 / 16777216)), .int .i64 x118001_2, .int .i64 x118002_2, .int .i64 0, .int .i64 0]) ?_ 3 _ rfl; (with_reducible repeat (first | refine kN ?_ _ | refine kD ?_ | refine kA ?_ _)); exact BK117.out) hb); have n2_ := mK (bP (by repeat (first | (with_reducible first | exact HB.out | apply bA | apply bN | apply bD | refine bS ?_ GE116.out | refine bS ?_ GE117.out) | exact HB.out)) hb); clear BK116; clear BK117; clear HB; have BK116 := n0_; have BK117 := n1_; have HB := n2_; clear n0_ n1_ n2_; (try clear hb); obtain ⟨hcz82_0, hcz82_1, hcz82_2, hcz82_3, hcz82_4, hfz82_0, hfz82_1, hfz82_2, hfz82_3, hfz82_4⟩ := cf5 BK117.out; obtain ⟨hcz83_0, hcz83_1, hcz83_2, hcz83_3, hcz83_4, hfz83_0, hfz83_1, hfz83_2, hfz83_3, hfz83_4⟩ := cf5 BK116.out))
             refine bodyPost_ret (results_ct rfl _ _ gb116 24 #[.int .i64 (wrap64 (a0 / 16777216)), .int .i64 x118001_2, .int .i64 x118002_2, .int .i64 (wrap64 (Go.bits .and .u32 a0 15)), .int .i64 0] (0, 0) _ rfl (by (with_reducible repeat (first | refine kN ?_ _ | refine kD ?_ | refine kA ?_ _)); refine kP (cs := #[.int .i64 (wrap64 (a0 / 16777216)), .int .i64 x118001_2, .int .i64 x118002_2, .int .i64 (wrap64 (Go.bits .and .u32 a0 15)), .int .i64 0]) ?_ 4 _ rfl; (with_reducible repeat (first | refine kN ?_ _ | refine kD ?_ | refine kA ?_ _)); refine kP (cs := #[.int .i64 (wrap64 (a0 / 16777216)), .int .i64 x118001_2, .int .i64 x118002_2, .int .i64 0, .int .i64 0]) ?_ 3 _ rfl; (with_reducible repeat (first | refine kN ?_ _ | refine kD ?_ | refine kA ?_ _)); refine kP (cs := #[.int .i64 (wrap64 (a0 / 16777216)), .int .i64 x118001_2, .int .i64 0, .int .i64 0, .int .i64 0]) ?_ 2 _ rfl; (with_reducible repeat (first | refine kN ?_ _ | refine kD ?_ | refine kA ?_ _)); refine kP (cs := #[.int .i64 (wrap64 (a0 / 16777216)), .int .i64 0, .int .i64 0, .int .i64 0, .int .i64 0]) ?_ 1 _ rfl; (with_reducible repeat (first | refine kN ?_ _ | refine kD ?_ | refine kA ?_ _)); refine kP (cs := #[.int .i64 0, .int .i64 0, .int .i64 0, .int .i64 0, .int .i64 0]) ?_ 0 _ rfl; (with_reducible repeat (first | refine kN ?_ _ | refine kD ?_ | refine kA ?_ _)); exact BK116.out) Try.underlying24 rfl (by kernel_rfl)) rfl ?_
             exact ⟨by first | rfl | (simp [errW_none, errW_some] <;> rfl) | (simp [*, errW_none, errW_some] <;> rfl), by repeat (first | (with_reducible first | exact HB.out | apply bA | apply bN | apply bD | refine bS ?_ GE116.out | refine bS ?_ GE117.out) | exact HB.out)⟩
            ·
             rw [if_neg c78] at H
             have c78b0 : (t127 == a0) = false := bQ c78
             have c78b1 : (t127 != a0) = true := bne_iff_ne.mpr c78
             simp only [Option.some.injEq, Prod.mk.injEq] at H
             obtain ⟨rfl, rfl, rfl, rfl, rfl, rfl⟩ := H
             have hnb84 := NB117_116.out
             have hnc84 := NB116_117.out
             obtain ⟨hcz85_0, hcz85_1, hcz85_2, hcz85_3, hcz85_4, hfz85_0, hfz85_1, hfz85_2, hfz85_3, hfz85_4⟩ := cf5 BK117.out
             go_wp2_with (first | ((with_reducible refine gate_callee (f := 38) rfl ?_); refine goesL_ (some 57) rfl rfl Try.func38 (by kernel_rfl) rfl #[.agg #[.int .i64 (wrap64 (a0 / 16777216)), .int .i64 x118001_2, .int .i64 x118002_2, .int .i64 (wrap64 (Go.bits .and .u32 a0 15)), .int .i64 0]] rfl (by (try simp only [List.map_toArray, List.map_cons, List.map_nil]); first | done | rfl) ?_; (with_reducible refine (instr_Encode.calls kj33 (wrap64 (a0 / 16777216)) x118001_2 x118002_2 (wrap64 (Go.bits .and .u32 a0 15)) 0 t127 t128 _ A76.out).mono ?_); rintro e w86 ⟨rfl, hb⟩; refine ⟨_, rfl, ?_⟩; have n0_ := mK (kB (g := gb116) (o := o5 0 0 0 0 0 24) (by (with_reducible repeat (first | refine kN ?_ _ | refine kD ?_ | refine kA ?_ _)); refine kR ?_ NB116_117.out _; (with_reducible repeat (first | refine kN ?_ _ | refine kD ?_ | refine kA ?_ _)); exact BK116.out) hb); have n1_ := mK (kB (g := gb117) (o := .cells #[.int .i64 (wrap64 (a0 / 16777216)), .int .i64 x118001_2, .int .i64 x118002_2, .int .i64 (wrap64 (Go.bits .and .u32 a0 15)), .int .i64 0] 24 (0, 0)) (by (with_reducible repeat (first | refine kN ?_ _ | refine kD ?_ | refine kA ?_ _)); refine kP (cs := #[.int .i64 (wrap64 (a0 / 16777216)), .int .i64 x118001_2, .int .i64 x118002_2, .int .i64 0, .int .i64 0]) ?_ 3 _ rfl; (with_reducible repeat (first | refine kN ?_ _ | refine kD ?_ | refine kA ?_ _)); exact BK117.out) hb); have n2_ := mK (bP (by repeat (first | (with_reducible first | exact HB.out | apply bA | apply bN | apply bD | refine bS ?_ GE116.out | refine bS ?_ GE117.out) | exact HB.out)) hb); clear BK116; clear BK117; clear HB; have BK116 := n0_; have BK117 := n1_; have HB := n2_; clear n0_ n1_ n2_; (try clear hb); obtain ⟨hcz87_0, hcz87_1, hcz87_2, hcz87_3, hcz87_4, hfz87_0, hfz87_1, hfz87_2, hfz87_3, hfz87_4⟩ := cf5 BK116.out))
             refine bodyPost_ret (results_ct rfl _ _ gb116 24 #[.int .i64 0, .int .i64 0, .int .i64 0, .int .i64 0, .int .i64 0] (0, 0) _ rfl (by (with_reducible repeat (first | refine kN ?_ _ | refine kD ?_ | refine kA ?_ _)); refine kP (cs := #[.int .i64 0, .int .i64 0, .int .i64 0, .int .i64 0, .int .i64 0]) ?_ 4 _ rfl; (with_reducible repeat (first | refine kN ?_ _ | refine kD ?_ | refine kA ?_ _)); refine kP (cs := #[.int .i64 0, .int .i64 0, .int .i64 0, .int .i64 0, .int .i64 0]) ?_ 3 _ rfl; (with_reducible repeat (first | refine kN ?_ _ | refine kD ?_ | refine kA ?_ _)); refine kP (cs := #[.int .i64 0, .int .i64 0, .int .i64 0, .int .i64 0, .int .i64 0]) ?_ 2 _ rfl; (with_reducible repeat (first | refine kN ?_ _ | refine kD ?_ | refine kA ?_ _)); refine kP (cs := #[.int .i64 0, .int .i64 0, .int .i64 0, .int .i64 0, .int .i64 0]) ?_ 1 _ rfl; (with_reducible repeat (first | refine kN ?_ _ | refine kD ?_ | refine kA ?_ _)); refine kP (cs := #[.int .i64 0, .int .i64 0, .int .i64 0, .int .i64 0, .int .i64 0]) ?_ 0 _ rfl; (with_reducible repeat (first | refine kN ?_ _ | refine kD ?_ | refine kA ?_ _)); exact BK116.out) Try.underlying24 rfl (by kernel_rfl)) rfl ?_
             exact ⟨by first | rfl | (simp [errW_none, errW_some] <;> rfl) | (simp [*, errW_none, errW_some] <;> rfl), by repeat (first | (with_reducible first | exact HB.out | apply bA | apply bN | apply bD | refine bS ?_ GE116.out | refine bS ?_ GE117.out) | exact HB.out)⟩
           ·
            rw [if_neg c77] at H
            have c77b0 : (t128 == 0) = false := bQ c77
            have c77b1 : (t128 != 0) = true := bne_iff_ne.mpr c77
            simp only [Option.some.injEq, Prod.mk.injEq] at H
            obtain ⟨rfl, rfl, rfl, rfl, rfl, rfl⟩ := H
            have hnb88 := NB117_116.out
            have hnc88 := NB116_117.out
            obtain ⟨hcz89_0, hcz89_1, hcz89_2, hcz89_3, hcz89_4, hfz89_0, hfz89_1, hfz89_2, hfz89_3, hfz89_4⟩ := cf5 BK117.out
            go_wp2_with (first | ((with_reducible refine gate_callee (f := 38) rfl ?_); refine goesL_ (some 57) rfl rfl Try.func38 (by kernel_rfl) rfl #[.agg #[.int .i64 (wrap64 (a0 / 16777216)), .int .i64 x118001_2, .int .i64 x118002_2, .int .i64 (wrap64 (Go.bits .and .u32 a0 15)), .int .i64 0]] rfl (by (try simp only [List.map_toArray, List.map_cons, List.map_nil]); first | done | rfl) ?_; (with_reducible refine (instr_Encode.calls kj33 (wrap64 (a0 / 16777216)) x118001_2 x118002_2 (wrap64 (Go.bits .and .u32 a0 15)) 0 t127 t128 _ A76.out).mono ?_); rintro e w90 ⟨rfl, hb⟩; refine ⟨_, rfl, ?_⟩; have n0_ := mK (kB (g := gb116) (o := o5 0 0 0 0 0 24) (by (with_reducible repeat (first | refine kN ?_ _ | refine kD ?_ | refine kA ?_ _)); refine kR ?_ NB116_117.out _; (with_reducible repeat (first | refine kN ?_ _ | refine kD ?_ | refine kA ?_ _)); exact BK116.out) hb); have n1_ := mK (kB (g := gb117) (o := .cells #[.int .i64 (wrap64 (a0 / 16777216)), .int .i64 x118001_2, .int .i64 x118002_2, .int .i64 (wrap64 (Go.bits .and .u32 a0 15)), .int .i64 0] 24 (0, 0)) (by (with_reducible repeat (first | refine kN ?_ _ | refine kD ?_ | refine kA ?_ _)); refine kP (cs := #[.int .i64 (wrap64 (a0 / 16777216)), .int .i64 x118001_2, .int .i64 x118002_2, .int .i64 0, .int .i64 0]) ?_ 3 _ rfl; (with_reducible repeat (first | refine kN ?_ _ | refine kD ?_ | refine kA ?_ _)); exact BK117.out) hb); have n2_ := mK (bP (by repeat (first | (with_reducible first | exact HB.out | apply bA | apply bN | apply bD | refine bS ?_ GE116.out | refine bS ?_ GE117.out) | exact HB.out)) hb); clear BK116; clear BK117; clear HB; have BK116 := n0_; have BK117 := n1_; have HB := n2_; clear n0_ n1_ n2_; (try clear hb); obtain ⟨hcz91_0, hcz91_1, hcz91_2, hcz91_3, hcz91_4, hfz91_0, hfz91_1, hfz91_2, hfz91_3, hfz91_4⟩ := cf5 BK116.out))
            refine bodyPost_ret (results_ct rfl _ _ gb116 24 #[.int .i64 0, .int .i64 0, .int .i64 0, .int .i64 0, .int .i64 0] (0, 0) _ rfl (by (with_reducible repeat (first | refine kN ?_ _ | refine kD ?_ | refine kA ?_ _)); refine kP (cs := #[.int .i64 0, .int .i64 0, .int .i64 0, .int .i64 0, .int .i64 0]) ?_ 4 _ rfl; (with_reducible repeat (first | refine kN ?_ _ | refine kD ?_ | refine kA ?_ _)); refine kP (cs := #[.int .i64 0, .int .i64 0, .int .i64 0, .int .i64 0, .int .i64 0]) ?_ 3 _ rfl; (with_reducible repeat (first | refine kN ?_ _ | refine kD ?_ | refine kA ?_ _)); refine kP (cs := #[.int .i64 0, .int .i64 0, .int .i64 0, .int .i64 0, .int .i64 0]) ?_ 2 _ rfl; (with_reducible repeat (first | refine kN ?_ _ | refine kD ?_ | refine kA ?_ _)); refine kP (cs := #[.int .i64 0, .int .i64 0, .int .i64 0, .int .i64 0, .int .i64 0]) ?_ 1 _ rfl; (with_reducible repeat (first | refine kN ?_ _ | refine kD ?_ | refine kA ?_ _)); refine kP (cs := #[.int .i64 0, .int .i64 0, .int .i64 0, .int .i64 0, .int .i64 0]) ?_ 0 _ rfl; (with_reducible repeat (first | refine kN ?_ _ | refine kD ?_ | refine kA ?_ _)); exact BK116.out) Try.underlying24 rfl (by kernel_rfl)) rfl ?_
            exact ⟨by first | rfl | (simp [errW_none, errW_some] <;> rfl) | (simp [*, errW_none, errW_some] <;> rfl), by repeat (first | (with_reducible first | exact HB.out | apply bA | apply bN | apply bD | refine bS ?_ GE116.out | refine bS ?_ GE117.out) | exact HB.out)⟩
          ·
           rw [if_neg c75] at H
           have c75b0 : (t118 == 5) = false := bQ c75
           have c75b1 : (t118 != 5) = true := bne_iff_ne.mpr c75
           replace H := oB H
           obtain ⟨⟨t129, t130⟩, A920, H⟩ := H
           replace H : (if t130 = 0 then (if t129 = a0 then (some ((wrap64 (a0 / 16777216)), x118001_2, x118002_2, 0, 0, 0)) else (some (0, 0, 0, 0, 0, 21))) else (some (0, 0, 0, 0, 0, 21))) = some (r1, r2, r3, r4, r5, r6) := H
           have A92 := mK A920
           clear A920
           by_cases c93 : t130 = 0
           ·
            rw [if_pos c93] at H
            have c93b0 : (t130 == 0) = true := beq_iff_eq.mpr c93
            have c93b1 : (t130 != 0) = false := bR c93
            clear c93
            by_cases c94 : t129 = a0
            ·
             rw [if_pos c94] at H
             have c94b0 : (t129 == a0) = true := beq_iff_eq.mpr c94
             have c94b1 : (t129 != a0) = false := bR c94
             clear c94
             simp only [Option.some.injEq, Prod.mk.injEq] at H
             obtain ⟨rfl, rfl, rfl, rfl, rfl, rfl⟩ := H
             have hnb95 := NB117_116.out
             have hnc95 := NB116_117.out
             obtain ⟨hcz96_0, hcz96_1, hcz96_2, hcz96_3, hcz96_4, hfz96_0, hfz96_1, hfz96_2, hfz96_3, hfz96_4⟩ := cf5 BK117.out
             go_wp2_with (first | ((with_reducible refine gate_callee (f := 38) rfl ?_); refine goesL_ (some 57) rfl rfl Try.func38 (by kernel_rfl) rfl #[.agg #[.int .i64 (wrap64 (a0 / 16777216)), .int .i64 x118001_2, .int .i64 x118002_2, .int .i64 0, .int .i64 0]] rfl (by (try simp only [List.map_toArray, List.map_cons, List.map_nil]); first | done | rfl) ?_; (with_reducible refine (instr_Encode.calls kj33 (wrap64 (a0 / 16777216)) x118001_2 x118002_2 0 0 t129 t130 _ A92.out).mono ?_); rintro e w97 ⟨rfl, hb⟩; refine ⟨_, rfl, ?_⟩; have n0_ := mK (kB (g := gb116) (o := o5 0 0 0 0 0 24) (by (with_reducible repeat (first | refine kN ?_ _ | refine kD ?_ | refine kA ?_ _)); exact BK116.out) hb); have n1_ := mK (kB (g := gb117) (o := .cells #[.int .i64 (wrap64 (a0 / 16777216)), .int .i64 x118001_2, .int .i64 x118002_2, .int .i64 0, .int .i64 0] 24 (0, 0)) (by (with_reducible repeat (first | refine kN ?_ _ | refine kD ?_ | refine kA ?_ _)); exact BK117.out) hb); have n2_ := mK (bP (by repeat (first | (with_reducible first | exact HB.out | apply bA | apply bN | apply bD | refine bS ?_ GE116.out | refine bS ?_ GE117.out) | exact HB.out)) hb); clear BK116; clear BK117; clear HB; have BK116 := n0_; have BK117 := n1_; have HB := n2_; clear n0_ n1_ n2_; (try clear hb); obtain ⟨hcz98_0, hcz98_1, hcz98_2, hcz98_3, hcz98_4, hfz98_0, hfz98_1, hfz98_2, hfz98_3, hfz98_4⟩ := cf5 BK117.out; obtain ⟨hcz99_0, hcz99_1, hcz99_2, hcz99_3, hcz99_4, hfz99_0, hfz99_1, hfz99_2, hfz99_3, hfz99_4⟩ := cf5 BK116.out))
             refine bodyPost_ret (results_ct rfl _ _ gb116 24 #[.int .i64 (wrap64 (a0 / 16777216)), .int .i64 x118001_2, .int .i64 x118002_2, .int .i64 0, .int .i64 0] (0, 0) _ rfl (by (with_reducible repeat (first | refine kN ?_ _ | refine kD ?_ | refine kA ?_ _)); refine kP (cs := #[.int .i64 (wrap64 (a0 / 16777216)), .int .i64 x118001_2, .int .i64 x118002_2, .int .i64 0, .int .i64 0]) ?_ 4 _ rfl; (with_reducible repeat (first | refine kN ?_ _ | refine kD ?_ | refine kA ?_ _)); refine kP (cs := #[.int .i64 (wrap64 (a0 / 16777216)), .int .i64 x118001_2, .int .i64 x118002_2, .int .i64 0, .int .i64 0]) ?_ 3 _ rfl; (with_reducible repeat (first | refine kN ?_ _ | refine kD ?_ | refine kA ?_ _)); refine kP (cs := #[.int .i64 (wrap64 (a0 / 16777216)), .int .i64 x118001_2, .int .i64 0, .int .i64 0, .int .i64 0]) ?_ 2 _ rfl; (with_reducible repeat (first | refine kN ?_ _ | refine kD ?_ | refine kA ?_ _)); refine kP (cs := #[.int .i64 (wrap64 (a0 / 16777216)), .int .i64 0, .int .i64 0, .int .i64 0, .int .i64 0]) ?_ 1 _ rfl; (with_reducible repeat (first | refine kN ?_ _ | refine kD ?_ | refine kA ?_ _)); refine kP (cs := #[.int .i64 0, .int .i64 0, .int .i64 0, .int .i64 0, .int .i64 0]) ?_ 0 _ rfl; (with_reducible repeat (first | refine kN ?_ _ | refine kD ?_ | refine kA ?_ _)); exact BK116.out) Try.underlying24 rfl (by kernel_rfl)) rfl ?_
             exact ⟨by first | rfl | (simp [errW_none, errW_some] <;> rfl) | (simp [*, errW_none, errW_some] <;> rfl), by repeat (first | (with_reducible first | exact HB.out | apply bA | apply bN | apply bD | refine bS ?_ GE116.out | refine bS ?_ GE117.out) | exact HB.out)⟩
            ·
             rw [if_neg c94] at H
             have c94b0 : (t129 == a0) = false := bQ c94
             have c94b1 : (t129 != a0) = true := bne_iff_ne.mpr c94
             simp only [Option.some.injEq, Prod.mk.injEq] at H
             obtain ⟨rfl, rfl, rfl, rfl, rfl, rfl⟩ := H
             have hnb100 := NB117_116.out
             have hnc100 := NB116_117.out
             obtain ⟨hcz101_0, hcz101_1, hcz101_2, hcz101_3, hcz101_4, hfz101_0, hfz101_1, hfz101_2, hfz101_3, hfz101_4⟩ := cf5 BK117.out
             go_wp2_with (first | ((with_reducible refine gate_callee (f := 38) rfl ?_); refine goesL_ (some 57) rfl rfl Try.func38 (by kernel_rfl) rfl #[.agg #[.int .i64 (wrap64 (a0 / 16777216)), .int .i64 x118001_2, .int .i64 x118002_2, .int .i64 0, .int .i64 0]] rfl (by (try simp only [List.map_toArray, List.map_cons, List.map_nil]); first | done | rfl) ?_; (with_reducible refine (instr_Encode.calls kj33 (wrap64 (a0 / 16777216)) x118001_2 x118002_2 0 0 t129 t130 _ A92.out).mono ?_); rintro e w102 ⟨rfl, hb⟩; refine ⟨_, rfl, ?_⟩; have n0_ := mK (kB (g := gb116) (o := o5 0 0 0 0 0 24) (by (with_reducible repeat (first | refine kN ?_ _ | refine kD ?_ | refine kA ?_ _)); exact BK116.out) hb); have n1_ := mK (kB (g := gb117) (o := .cells #[.int .i64 (wrap64 (a0 / 16777216)), .int .i64 x118001_2, .int .i64 x118002_2, .int .i64 0, .int .i64 0] 24 (0, 0)) (by (with_reducible repeat (first | refine kN ?_ _ | refine kD ?_ | refine kA ?_ _)); exact BK117.out) hb); have n2_ := mK (bP (by repeat (first | (with_reducible first | exact HB.out | apply bA | apply bN | apply bD | refine bS ?_ GE116.out | refine bS ?_ GE117.out) | exact HB.out)) hb); clear BK116; clear BK117; clear HB; have BK116 := n0_; have BK117 := n1_; have HB := n2_; clear n0_ n1_ n2_; (try clear hb); obtain ⟨hcz103_0, hcz103_1, hcz103_2, hcz103_3, hcz103_4, hfz103_0, hfz103_1, hfz103_2, hfz103_3, hfz103_4⟩ := cf5 BK116.out))
             refine bodyPost_ret (results_ct rfl _ _ gb116 24 #[.int .i64 0, .int .i64 0, .int .i64 0, .int .i64 0, .int .i64 0] (0, 0) _ rfl (by (with_reducible repeat (first | refine kN ?_ _ | refine kD ?_ | refine kA ?_ _)); refine kP (cs := #[.int .i64 0, .int .i64 0, .int .i64 0, .int .i64 0, .int .i64 0]) ?_ 4 _ rfl; (with_reducible repeat (first | refine kN ?_ _ | refine kD ?_ | refine kA ?_ _)); refine kP (cs := #[.int .i64 0, .int .i64 0, .int .i64 0, .int .i64 0, .int .i64 0]) ?_ 3 _ rfl; (with_reducible repeat (first | refine kN ?_ _ | refine kD ?_ | refine kA ?_ _)); refine kP (cs := #[.int .i64 0, .int .i64 0, .int .i64 0, .int .i64 0, .int .i64 0]) ?_ 2 _ rfl; (with_reducible repeat (first | refine kN ?_ _ | refine kD ?_ | refine kA ?_ _)); refine kP (cs := #[.int .i64 0, .int .i64 0, .int .i64 0, .int .i64 0, .int .i64 0]) ?_ 1 _ rfl; (with_reducible repeat (first | refine kN ?_ _ | refine kD ?_ | refine kA ?_ _)); refine kP (cs := #[.int .i64 0, .int .i64 0, .int .i64 0, .int .i64 0, .int .i64 0]) ?_ 0 _ rfl; (with_reducible repeat (first | refine kN ?_ _ | refine kD ?_ | refine kA ?_ _)); exact BK116.out) Try.underlying24 rfl (by kernel_rfl)) rfl ?_
             exact ⟨by first | rfl | (simp [errW_none, errW_some] <;> rfl) | (simp [*, errW_none, errW_some] <;> rfl), by repeat (first | (with_reducible first | exact HB.out | apply bA | apply bN | apply bD | refine bS ?_ GE116.out | refine bS ?_ GE117.out) | exact HB.out)⟩
           ·
            rw [if_neg c93] at H
            have c93b0 : (t130 == 0) = false := bQ c93
            have c93b1 : (t130 != 0) = true := bne_iff_ne.mpr c93
            simp only [Option.some.injEq, Prod.mk.injEq] at H
            obtain ⟨rfl, rfl, rfl, rfl, rfl, rfl⟩ := H
            have hnb104 := NB117_116.out
            have hnc104 := NB116_117.out
            obtain ⟨hcz105_0, hcz105_1, hcz105_2, hcz105_3, hcz105_4, hfz105_0, hfz105_1, hfz105_2, hfz105_3, hfz105_4⟩ := cf5 BK117.out
            go_wp2_with (first | ((with_reducible refine gate_callee (f := 38) rfl ?_); refine goesL_ (some 57) rfl rfl Try.func38 (by kernel_rfl) rfl #[.agg #[.int .i64 (wrap64 (a0 / 16777216)), .int .i64 x118001_2, .int .i64 x118002_2, .int .i64 0, .int .i64 0]] rfl (by (try simp only [List.map_toArray, List.map_cons, List.map_nil]); first | done | rfl) ?_; (with_reducible refine (instr_Encode.calls kj33 (wrap64 (a0 / 16777216)) x118001_2 x118002_2 0 0 t129 t130 _ A92.out).mono ?_); rintro e w106 ⟨rfl, hb⟩; refine ⟨_, rfl, ?_⟩; have n0_ := mK (kB (g := gb116) (o := o5 0 0 0 0 0 24) (by (with_reducible repeat (first | refine kN ?_ _ | refine kD ?_ | refine kA ?_ _)); exact BK116.out) hb); have n1_ := mK (kB (g := gb117) (o := .cells #[.int .i64 (wrap64 (a0 / 16777216)), .int .i64 x118001_2, .int .i64 x118002_2, .int .i64 0, .int .i64 0] 24 (0, 0)) (by (with_reducible repeat (first | refine kN ?_ _ | refine kD ?_ | refine kA ?_ _)); exact BK117.out) hb); have n2_ := mK (bP (by repeat (first | (with_reducible first | exact HB.out | apply bA | apply bN | apply bD | refine bS ?_ GE116.out | refine bS ?_ GE117.out) | exact HB.out)) hb); clear BK116; clear BK117; clear HB; have BK116 := n0_; have BK117 := n1_; have HB := n2_; clear n0_ n1_ n2_; (try clear hb); obtain ⟨hcz107_0, hcz107_1, hcz107_2, hcz107_3, hcz107_4, hfz107_0, hfz107_1, hfz107_2, hfz107_3, hfz107_4⟩ := cf5 BK116.out))
            refine bodyPost_ret (results_ct rfl _ _ gb116 24 #[.int .i64 0, .int .i64 0, .int .i64 0, .int .i64 0, .int .i64 0] (0, 0) _ rfl (by (with_reducible repeat (first | refine kN ?_ _ | refine kD ?_ | refine kA ?_ _)); refine kP (cs := #[.int .i64 0, .int .i64 0, .int .i64 0, .int .i64 0, .int .i64 0]) ?_ 4 _ rfl; (with_reducible repeat (first | refine kN ?_ _ | refine kD ?_ | refine kA ?_ _)); refine kP (cs := #[.int .i64 0, .int .i64 0, .int .i64 0, .int .i64 0, .int .i64 0]) ?_ 3 _ rfl; (with_reducible repeat (first | refine kN ?_ _ | refine kD ?_ | refine kA ?_ _)); refine kP (cs := #[.int .i64 0, .int .i64 0, .int .i64 0, .int .i64 0, .int .i64 0]) ?_ 2 _ rfl; (with_reducible repeat (first | refine kN ?_ _ | refine kD ?_ | refine kA ?_ _)); refine kP (cs := #[.int .i64 0, .int .i64 0, .int .i64 0, .int .i64 0, .int .i64 0]) ?_ 1 _ rfl; (with_reducible repeat (first | refine kN ?_ _ | refine kD ?_ | refine kA ?_ _)); refine kP (cs := #[.int .i64 0, .int .i64 0, .int .i64 0, .int .i64 0, .int .i64 0]) ?_ 0 _ rfl; (with_reducible repeat (first | refine kN ?_ _ | refine kD ?_ | refine kA ?_ _)); exact BK116.out) Try.underlying24 rfl (by kernel_rfl)) rfl ?_
            exact ⟨by first | rfl | (simp [errW_none, errW_some] <;> rfl) | (simp [*, errW_none, errW_some] <;> rfl), by repeat (first | (with_reducible first | exact HB.out | apply bA | apply bN | apply bD | refine bS ?_ GE116.out | refine bS ?_ GE117.out) | exact HB.out)⟩

end Go.Proofs.Ytfagpgpeiomnpaa.P

namespace Go.Proofs.Ytfagpgpeiomnpaa.P
open Go.RowKit Go.Proofs.YtfagpgpeiomnpaaW.PrintWords Go.Proofs.YtfagpgpeiomnpaaW.PrintLast Go.Proofs.YtfagpgpeiomnpaaW.PrintMore
attribute [local go_sem] max2_int min2_int max_two min_two max_three min_three max_four min_four   -- for this text's walks alone
set_option linter.unusedVariables false
set_option linter.unusedSimpArgs false

/-! ### instr_names: function 53 -/
def instr_names.f  : Option (List ByteArray) := some (([(⟨#[]⟩ : ByteArray), (⟨#[72, 65, 76, 84]⟩ : ByteArray), (⟨#[76, 68, 73]⟩ : ByteArray), (⟨#[76, 85, 73]⟩ : ByteArray), (⟨#[79, 82, 73]⟩ : ByteArray), (⟨#[65, 68, 68, 73]⟩ : ByteArray), (⟨#[65, 68, 68]⟩ : ByteArray), (⟨#[83, 85, 66]⟩ : ByteArray), (⟨#[77, 85, 76]⟩ : ByteArray), (⟨#[68, 73, 86]⟩ : ByteArray), (⟨#[77, 79, 68]⟩ : ByteArray), (⟨#[65, 78, 68]⟩ : ByteArray), (⟨#[79, 82]⟩ : ByteArray), (⟨#[88, 79, 82]⟩ : ByteArray), (⟨#[83, 76, 84]⟩ : ByteArray), (⟨#[83, 76, 69]⟩ : ByteArray), (⟨#[83, 69, 81]⟩ : ByteArray), (⟨#[83, 78, 69]⟩ : ByteArray), (⟨#[76, 68, 87]⟩ : ByteArray), (⟨#[83, 84, 87]⟩ : ByteArray), (⟨#[66, 90]⟩ : ByteArray), (⟨#[66, 78, 90]⟩ : ByteArray), (⟨#[66, 82]⟩ : ByteArray), (⟨#[67, 65, 76, 76]⟩ : ByteArray), (⟨#[74, 82]⟩ : ByteArray), (⟨#[67, 65, 76, 76, 82]⟩ : ByteArray), (⟨#[67, 72, 75]⟩ : ByteArray), (⟨#[78, 73, 76]⟩ : ByteArray), (⟨#[84, 82, 65, 80]⟩ : ByteArray), (⟨#[82, 65, 73, 83, 69]⟩ : ByteArray), (⟨#[79, 85, 84]⟩ : ByteArray), (⟨#[73, 78]⟩ : ByteArray), (⟨#[67, 72, 75, 83]⟩ : ByteArray), (⟨#[82, 84, 67]⟩ : ByteArray), (⟨#[88, 79, 82, 73]⟩ : ByteArray)] : List ByteArray))
set_option maxHeartbeats 8000000 in
set_option maxRecDepth 100000 in
theorem instr_names.calls  (r : List ByteArray) (w : World) (h : instr_names.f  = some r) :
 Calls Try.prog 53 #[] w fun e w' => ∃ v0_ : Value, e = .returned (v0_) ∧ Kd.R Kd.string 9 w' w.heap.size (fun _ => True) v0_ r ∧ Below w.heap.size w w' := by
 have HB := mK (Below.refl w.heap.size w)
 have H : (some (([(⟨#[]⟩ : ByteArray), (⟨#[72, 65, 76, 84]⟩ : ByteArray), (⟨#[76, 68, 73]⟩ : ByteArray), (⟨#[76, 85, 73]⟩ : ByteArray), (⟨#[79, 82, 73]⟩ : ByteArray), (⟨#[65, 68, 68, 73]⟩ : ByteArray), (⟨#[65, 68, 68]⟩ : ByteArray), (⟨#[83, 85, 66]⟩ : ByteArray), (⟨#[77, 85, 76]⟩ : ByteArray), (⟨#[68, 73, 86]⟩ : ByteArray), (⟨#[77, 79, 68]⟩ : ByteArray), (⟨#[65, 78, 68]⟩ : ByteArray), (⟨#[79, 82]⟩ : ByteArray), (⟨#[88, 79, 82]⟩ : ByteArray), (⟨#[83, 76, 84]⟩ : ByteArray), (⟨#[83, 76, 69]⟩ : ByteArray), (⟨#[83, 69, 81]⟩ : ByteArray), (⟨#[83, 78, 69]⟩ : ByteArray), (⟨#[76, 68, 87]⟩ : ByteArray), (⟨#[83, 84, 87]⟩ : ByteArray), (⟨#[66, 90]⟩ : ByteArray), (⟨#[66, 78, 90]⟩ : ByteArray), (⟨#[66, 82]⟩ : ByteArray), (⟨#[67, 65, 76, 76]⟩ : ByteArray), (⟨#[74, 82]⟩ : ByteArray), (⟨#[67, 65, 76, 76, 82]⟩ : ByteArray), (⟨#[67, 72, 75]⟩ : ByteArray), (⟨#[78, 73, 76]⟩ : ByteArray), (⟨#[84, 82, 65, 80]⟩ : ByteArray), (⟨#[82, 65, 73, 83, 69]⟩ : ByteArray), (⟨#[79, 85, 84]⟩ : ByteArray), (⟨#[73, 78]⟩ : ByteArray), (⟨#[67, 72, 75, 83]⟩ : ByteArray), (⟨#[82, 84, 67]⟩ : ByteArray), (⟨#[88, 79, 82, 73]⟩ : ByteArray)] : List ByteArray))) = some r := h
 clear h
 obtain ⟨y131, hy131⟩ : ∃ y_ : List ByteArray, y_ = (([(⟨#[]⟩ : ByteArray), (⟨#[72, 65, 76, 84]⟩ : ByteArray), (⟨#[76, 68, 73]⟩ : ByteArray), (⟨#[76, 85, 73]⟩ : ByteArray), (⟨#[79, 82, 73]⟩ : ByteArray), (⟨#[65, 68, 68, 73]⟩ : ByteArray), (⟨#[65, 68, 68]⟩ : ByteArray), (⟨#[83, 85, 66]⟩ : ByteArray), (⟨#[77, 85, 76]⟩ : ByteArray), (⟨#[68, 73, 86]⟩ : ByteArray), (⟨#[77, 79, 68]⟩ : ByteArray), (⟨#[65, 78, 68]⟩ : ByteArray), (⟨#[79, 82]⟩ : ByteArray), (⟨#[88, 79, 82]⟩ : ByteArray), (⟨#[83, 76, 84]⟩ : ByteArray), (⟨#[83, 76, 69]⟩ : ByteArray), (⟨#[83, 69, 81]⟩ : ByteArray), (⟨#[83, 78, 69]⟩ : ByteArray), (⟨#[76, 68, 87]⟩ : ByteArray), (⟨#[83, 84, 87]⟩ : ByteArray), (⟨#[66, 90]⟩ : ByteArray), (⟨#[66, 78, 90]⟩ : ByteArray), (⟨#[66, 82]⟩ : ByteArray), (⟨#[67, 65, 76, 76]⟩ : ByteArray), (⟨#[74, 82]⟩ : ByteArray), (⟨#[67, 65, 76, 76, 82]⟩ : ByteArray), (⟨#[67, 72, 75]⟩ : ByteArray), (⟨#[78, 73, 76]⟩ : ByteArray), (⟨#[84, 82, 65, 80]⟩ : ByteArray), (⟨#[82, 65, 73, 83, 69]⟩ : ByteArray), (⟨#[79, 85, 84]⟩ : ByteArray), (⟨#[73, 78]⟩ : ByteArray), (⟨#[67, 72, 75, 83]⟩ : ByteArray), (⟨#[82, 84, 67]⟩ : ByteArray), (⟨#[88, 79, 82, 73]⟩ : ByteArray)] : List ByteArray)) := ⟨_, rfl⟩
 replace H : (some y131) = some r := by first | (rw [hy131]; with_reducible exact H) | (have H2_ := (Option.bind_some _ _).symm.trans H; rw [hy131]; with_reducible exact H2_) | (have H2_ := (Option.bind_some _ _).symm.trans H; with_reducible exact H2_) | with_reducible exact H | (rw [hy131]; exact H) | exact H
 have Ny131 := mK hy131
 clear hy131
 obtain rfl := Option.some.inj H
 go_enter Try.func53, Try.ntmps53
 go_wp2_with (first | ((with_reducible refine gate_dst (N := 1) rfl ?_); refine Kd.R_lit Kd.string _ 9 ?hg (N := 1) ?hd (xs := ([(⟨#[]⟩ : ByteArray), (⟨#[72, 65, 76, 84]⟩ : ByteArray), (⟨#[76, 68, 73]⟩ : ByteArray), (⟨#[76, 85, 73]⟩ : ByteArray), (⟨#[79, 82, 73]⟩ : ByteArray), (⟨#[65, 68, 68, 73]⟩ : ByteArray), (⟨#[65, 68, 68]⟩ : ByteArray), (⟨#[83, 85, 66]⟩ : ByteArray), (⟨#[77, 85, 76]⟩ : ByteArray), (⟨#[68, 73, 86]⟩ : ByteArray), (⟨#[77, 79, 68]⟩ : ByteArray), (⟨#[65, 78, 68]⟩ : ByteArray), (⟨#[79, 82]⟩ : ByteArray), (⟨#[88, 79, 82]⟩ : ByteArray), (⟨#[83, 76, 84]⟩ : ByteArray), (⟨#[83, 76, 69]⟩ : ByteArray), (⟨#[83, 69, 81]⟩ : ByteArray), (⟨#[83, 78, 69]⟩ : ByteArray), (⟨#[76, 68, 87]⟩ : ByteArray), (⟨#[83, 84, 87]⟩ : ByteArray), (⟨#[66, 90]⟩ : ByteArray), (⟨#[66, 78, 90]⟩ : ByteArray), (⟨#[66, 82]⟩ : ByteArray), (⟨#[67, 65, 76, 76]⟩ : ByteArray), (⟨#[74, 82]⟩ : ByteArray), (⟨#[67, 65, 76, 76, 82]⟩ : ByteArray), (⟨#[67, 72, 75]⟩ : ByteArray), (⟨#[78, 73, 76]⟩ : ByteArray), (⟨#[84, 82, 65, 80]⟩ : ByteArray), (⟨#[82, 65, 73, 83, 69]⟩ : ByteArray), (⟨#[79, 85, 84]⟩ : ByteArray), (⟨#[73, 78]⟩ : ByteArray), (⟨#[67, 72, 75, 83]⟩ : ByteArray), (⟨#[82, 84, 67]⟩ : ByteArray), (⟨#[88, 79, 82, 73]⟩ : ByteArray)] : List ByteArray)) (inner := [.string (⟨#[]⟩ : ByteArray), .string (⟨#[72, 65, 76, 84]⟩ : ByteArray), .string (⟨#[76, 68, 73]⟩ : ByteArray), .string (⟨#[76, 85, 73]⟩ : ByteArray), .string (⟨#[79, 82, 73]⟩ : ByteArray), .string (⟨#[65, 68, 68, 73]⟩ : ByteArray), .string (⟨#[65, 68, 68]⟩ : ByteArray), .string (⟨#[83, 85, 66]⟩ : ByteArray), .string (⟨#[77, 85, 76]⟩ : ByteArray), .string (⟨#[68, 73, 86]⟩ : ByteArray), .string (⟨#[77, 79, 68]⟩ : ByteArray), .string (⟨#[65, 78, 68]⟩ : ByteArray), .string (⟨#[79, 82]⟩ : ByteArray), .string (⟨#[88, 79, 82]⟩ : ByteArray), .string (⟨#[83, 76, 84]⟩ : ByteArray), .string (⟨#[83, 76, 69]⟩ : ByteArray), .string (⟨#[83, 69, 81]⟩ : ByteArray), .string (⟨#[83, 78, 69]⟩ : ByteArray), .string (⟨#[76, 68, 87]⟩ : ByteArray), .string (⟨#[83, 84, 87]⟩ : ByteArray), .string (⟨#[66, 90]⟩ : ByteArray), .string (⟨#[66, 78, 90]⟩ : ByteArray), .string (⟨#[66, 82]⟩ : ByteArray), .string (⟨#[67, 65, 76, 76]⟩ : ByteArray), .string (⟨#[74, 82]⟩ : ByteArray), .string (⟨#[67, 65, 76, 76, 82]⟩ : ByteArray), .string (⟨#[67, 72, 75]⟩ : ByteArray), .string (⟨#[78, 73, 76]⟩ : ByteArray), .string (⟨#[84, 82, 65, 80]⟩ : ByteArray), .string (⟨#[82, 65, 73, 83, 69]⟩ : ByteArray), .string (⟨#[79, 85, 84]⟩ : ByteArray), .string (⟨#[73, 78]⟩ : ByteArray), .string (⟨#[67, 72, 75, 83]⟩ : ByteArray), .string (⟨#[82, 84, 67]⟩ : ByteArray), .string (⟨#[88, 79, 82, 73]⟩ : ByteArray)]) (ok := fun _ => True) (okp := fun _ => True) ?hr ?hp (fun _ hk => hk) trivial (Below.refl _ _) (Nat.le_refl _) (by simp) ?_; (case hd => rfl); (case hg => rfl); (case hr => first | (go_simp; done) | (go_simp; rfl)); (case hp => exact (Reps.one (show Kd.M Kd.string _ _ _ (⟨#[]⟩ : ByteArray) [.string (⟨#[]⟩ : ByteArray)] from rfl) (Reps.one (show Kd.M Kd.string _ _ _ (⟨#[72, 65, 76, 84]⟩ : ByteArray) [.string (⟨#[72, 65, 76, 84]⟩ : ByteArray)] from rfl) (Reps.one (show Kd.M Kd.string _ _ _ (⟨#[76, 68, 73]⟩ : ByteArray) [.string (⟨#[76, 68, 73]⟩ : ByteArray)] from rfl) (Reps.one (show Kd.M Kd.string _ _ _ (⟨#[76, 85, 73]⟩ : ByteArray) [.string (⟨#[76, 85, 73]⟩ : ByteArray)] from rfl) (Reps.one (show Kd.M Kd.string _ _ _ (⟨#[79, 82, 73]⟩ : ByteArray) [.string (⟨#[79, 82, 73]⟩ : ByteArray)] from rfl) (Reps.one (show Kd.M Kd.string _ _ _ (⟨#[65, 68, 68, 73]⟩ : ByteArray) [.string (⟨#[65, 68, 68, 73]⟩ : ByteArray)] from rfl) (Reps.one (show Kd.M Kd.string _ _ _ (⟨#[65, 68, 68]⟩ : ByteArray) [.string (⟨#[65, 68, 68]⟩ : ByteArray)] from rfl) (Reps.one (show Kd.M Kd.string _ _ _ (⟨#[83, 85, 66]⟩ : ByteArray) [.string (⟨#[83, 85, 66]⟩ : ByteArray)] from rfl) (Reps.one (show Kd.M Kd.string _ _ _ (⟨#[77, 85, 76]⟩ : ByteArray) [.string (⟨#[77, 85, 76]⟩ : ByteArray)] from rfl) (Reps.one (show Kd.M Kd.string _ _ _ (⟨#[68, 73, 86]⟩ : ByteArray) [.string (⟨#[68, 73, 86]⟩ : ByteArray)] from rfl) (Reps.one (show Kd.M Kd.string _ _ _ (⟨#[77, 79, 68]⟩ : ByteArray) [.string (⟨#[77, 79, 68]⟩ : ByteArray)] from rfl) (Reps.one (show Kd.M Kd.string _ _ _ (⟨#[65, 78, 68]⟩ : ByteArray) [.string (⟨#[65, 78, 68]⟩ : ByteArray)] from rfl) (Reps.one (show Kd.M Kd.string _ _ _ (⟨#[79, 82]⟩ : ByteArray) [.string (⟨#[79, 82]⟩ : ByteArray)] from rfl) (Reps.one (show Kd.M Kd.string _ _ _ (⟨#[88, 79, 82]⟩ : ByteArray) [.string (⟨#[88, 79, 82]⟩ : ByteArray)] from rfl) (Reps.one (show Kd.M Kd.string _ _ _ (⟨#[83, 76, 84]⟩ : ByteArray) [.string (⟨#[83, 76, 84]⟩ : ByteArray)] from rfl) (Reps.one (show Kd.M Kd.string _ _ _ (⟨#[83, 76, 69]⟩ : ByteArray) [.string (⟨#[83, 76, 69]⟩ : ByteArray)] from rfl) (Reps.one (show Kd.M Kd.string _ _ _ (⟨#[83, 69, 81]⟩ : ByteArray) [.string (⟨#[83, 69, 81]⟩ : ByteArray)] from rfl) (Reps.one (show Kd.M Kd.string _ _ _ (⟨#[83, 78, 69]⟩ : ByteArray) [.string (⟨#[83, 78, 69]⟩ : ByteArray)] from rfl) (Reps.one (show Kd.M Kd.string _ _ _ (⟨#[76, 68, 87]⟩ : ByteArray) [.string (⟨#[76, 68, 87]⟩ : ByteArray)] from rfl) (Reps.one (show Kd.M Kd.string _ _ _ (⟨#[83, 84, 87]⟩ : ByteArray) [.string (⟨#[83, 84, 87]⟩ : ByteArray)] from rfl) (Reps.one (show Kd.M Kd.string _ _ _ (⟨#[66, 90]⟩ : ByteArray) [.string (⟨#[66, 90]⟩ : ByteArray)] from rfl) (Reps.one (show Kd.M Kd.string _ _ _ (⟨#[66, 78, 90]⟩ : ByteArray) [.string (⟨#[66, 78, 90]⟩ : ByteArray)] from rfl) (Reps.one (show Kd.M Kd.string _ _ _ (⟨#[66, 82]⟩ : ByteArray) [.string (⟨#[66, 82]⟩ : ByteArray)] from rfl) (Reps.one (show Kd.M Kd.string _ _ _ (⟨#[67, 65, 76, 76]⟩ : ByteArray) [.string (⟨#[67, 65, 76, 76]⟩ : ByteArray)] from rfl) (Reps.one (show Kd.M Kd.string _ _ _ (⟨#[74, 82]⟩ : ByteArray) [.string (⟨#[74, 82]⟩ : ByteArray)] from rfl) (Reps.one (show Kd.M Kd.string _ _ _ (⟨#[67, 65, 76, 76, 82]⟩ : ByteArray) [.string (⟨#[67, 65, 76, 76, 82]⟩ : ByteArray)] from rfl) (Reps.one (show Kd.M Kd.string _ _ _ (⟨#[67, 72, 75]⟩ : ByteArray) [.string (⟨#[67, 72, 75]⟩ : ByteArray)] from rfl) (Reps.one (show Kd.M Kd.string _ _ _ (⟨#[78, 73, 76]⟩ : ByteArray) [.string (⟨#[78, 73, 76]⟩ : ByteArray)] from rfl) (Reps.one (show Kd.M Kd.string _ _ _ (⟨#[84, 82, 65, 80]⟩ : ByteArray) [.string (⟨#[84, 82, 65, 80]⟩ : ByteArray)] from rfl) (Reps.one (show Kd.M Kd.string _ _ _ (⟨#[82, 65, 73, 83, 69]⟩ : ByteArray) [.string (⟨#[82, 65, 73, 83, 69]⟩ : ByteArray)] from rfl) (Reps.one (show Kd.M Kd.string _ _ _ (⟨#[79, 85, 84]⟩ : ByteArray) [.string (⟨#[79, 85, 84]⟩ : ByteArray)] from rfl) (Reps.one (show Kd.M Kd.string _ _ _ (⟨#[73, 78]⟩ : ByteArray) [.string (⟨#[73, 78]⟩ : ByteArray)] from rfl) (Reps.one (show Kd.M Kd.string _ _ _ (⟨#[67, 72, 75, 83]⟩ : ByteArray) [.string (⟨#[67, 72, 75, 83]⟩ : ByteArray)] from rfl) (Reps.one (show Kd.M Kd.string _ _ _ (⟨#[82, 84, 67]⟩ : ByteArray) [.string (⟨#[82, 84, 67]⟩ : ByteArray)] from rfl) (Reps.one (show Kd.M Kd.string _ _ _ (⟨#[88, 79, 82, 73]⟩ : ByteArray) [.string (⟨#[88, 79, 82, 73]⟩ : ByteArray)] from rfl) (Reps.none _ _))))))))))))))))))))))))))))))))))))); intro v132 w1 ho2 hb hg_ hnew_; clear hg_ hnew_; (first | rw [← Ny131.out] at ho2 | (simp only [Int.reduceToNat] at ho2; rw [← Ny131.out] at ho2)); have n0_ := mK (Kd.R_lower ho2 (bZ (by repeat (first | (with_reducible first | exact HB.out | apply bA | apply bN | apply bD) | exact HB.out)))); have n1_ := mK (bP (by repeat (first | (with_reducible first | exact HB.out | apply bA | apply bN | apply bD) | exact HB.out)) hb); clear HB; have HO133 := n0_; have HB := n1_; clear n0_ n1_; clear hb ho2))
 go_ret
 exact ⟨_, by first | rfl | (simp [errW_none, errW_some] <;> rfl) | (simp [*, errW_none, errW_some] <;> rfl), by (with_reducible repeat (first | apply Kd.R_alloc | apply Kd.R_drewN | apply Kd.R_drew)); exact HO133.out, by repeat (first | (with_reducible first | exact HB.out | apply bA | apply bN | apply bD) | exact HB.out)⟩

end Go.Proofs.Ytfagpgpeiomnpaa.P

namespace Go.Proofs.Ytfagpgpeiomnpaa.P
open Go.RowKit Go.Proofs.YtfagpgpeiomnpaaW.PrintWords Go.Proofs.YtfagpgpeiomnpaaW.PrintLast Go.Proofs.YtfagpgpeiomnpaaW.PrintMore
attribute [local go_sem] max2_int min2_int max_two min_two max_three min_three max_four min_four   -- for this text's walks alone
set_option linter.unusedVariables false
set_option linter.unusedSimpArgs false

/-! ### instr_Name: function 40 -/
def instr_Name.f (a0 : Int) : Option (ByteArray) := if a0 < 1 then (some (⟨#[]⟩ : ByteArray)) else (if a0 > 34 then (some (⟨#[]⟩ : ByteArray)) else ((instr_names.f).bind fun t134 => (if 0 ≤ a0 then (if a0 < (t134.length : Int) then (some (rdOf ByteArray.empty t134 a0)) else (none)) else (none))))
set_option maxHeartbeats 8000000 in
set_option maxRecDepth 100000 in
theorem instr_Name.calls (a0 : Int) (r : ByteArray) (w : World) (h : instr_Name.f a0 = some r) :
 Calls Try.prog 40 #[.int .i64 a0] w fun e w' => e = .returned (.string r) ∧ Below w.heap.size w w' := by
 have HB := mK (Below.refl w.heap.size w)
 have H : (if a0 < 1 then (some (⟨#[]⟩ : ByteArray)) else (if a0 > 34 then (some (⟨#[]⟩ : ByteArray)) else ((instr_names.f).bind fun t134 => (if 0 ≤ a0 then (if a0 < (t134.length : Int) then (some (rdOf ByteArray.empty t134 a0)) else (none)) else (none))))) = some r := h
 clear h
 by_cases c2 : a0 < 1
 ·
  rw [if_pos c2] at H
  have c2b0 : decide (a0 < 1) = true := decide_eq_true c2
  clear c2
  obtain rfl := Option.some.inj H
  go_enter Try.func40, Try.ntmps40
  go_wp2
  go_ret
  exact ⟨by first | rfl | (simp [errW_none, errW_some] <;> rfl) | (simp [*, errW_none, errW_some] <;> rfl), by repeat (first | (with_reducible first | exact HB.out | apply bA | apply bN | apply bD) | exact HB.out)⟩
 ·
  rw [if_neg c2] at H
  have c2b0 : decide (a0 < 1) = false := decide_eq_false c2
  clear c2
  by_cases c3 : a0 > 34
  ·
   rw [if_pos c3] at H
   have c3b0 : decide (34 < a0) = true := decide_eq_true c3
   clear c3
   obtain rfl := Option.some.inj H
   go_enter Try.func40, Try.ntmps40
   go_wp2
   go_ret
   exact ⟨by first | rfl | (simp [errW_none, errW_some] <;> rfl) | (simp [*, errW_none, errW_some] <;> rfl), by repeat (first | (with_reducible first | exact HB.out | apply bA | apply bN | apply bD) | exact HB.out)⟩
  ·
   rw [if_neg c3] at H
   have c3b0 : decide (34 < a0) = false := decide_eq_false c3
   clear c3
   replace H := oB H
   obtain ⟨t134, A40, H⟩ := H
   replace H : (if 0 ≤ a0 then (if a0 < (t134.length : Int) then (some (rdOf ByteArray.empty t134 a0)) else (none)) else (none)) = some r := H
   have A4 := mK A40
   clear A40
   by_cases c5 : 0 ≤ a0
   ·
    rw [if_pos c5] at H
    have c5b0 : decide (0 ≤ a0) = true := decide_eq_true c5
    clear c5
    by_cases c6 : a0 < (t134.length : Int)
    ·
     rw [if_pos c6] at H
     have c6b0 : decide (a0 < (t134.length : Int)) = true := decide_eq_true c6
     clear c6
     obtain rfl := Option.some.inj H
     go_enter Try.func40, Try.ntmps40
     go_wp2_with (first | ((with_reducible refine gate_callee (f := 53) rfl ?_); refine goesL_ (some 9) rfl rfl Try.func53 (by kernel_rfl) rfl #[] rfl (by (try simp only [List.map_toArray, List.map_cons, List.map_nil]); first | done | rfl) ?_; (with_reducible refine (instr_names.calls  t134 _ A4.out).mono ?_); rintro e w7 ⟨v135, rfl, ho0, hb⟩; refine ⟨_, rfl, ?_⟩; have n0_ := mK (Kd.R_lower ho0 (bZ (by repeat (first | (with_reducible first | exact HB.out | apply bA | apply bN | apply bD) | exact HB.out)))); have n1_ := mK (bP (by repeat (first | (with_reducible first | exact HB.out | apply bA | apply bN | apply bD) | exact HB.out)) hb); clear HB; have HO136 := n0_; have HB := n1_; clear n0_ n1_; (try clear hb); (try clear ho0); obtain ⟨Ao8, co8, eo8⟩ := Kd.R_slice HO136.out; subst eo8; have p137 : 0 ≤ (a0 : Int) := of_decide_eq_true (by first | (with_reducible assumption) | assumption); have q137 : a0 < (t134.length : Int) := of_decide_eq_true (by first | (with_reducible assumption) | assumption); obtain ⟨ad137, e137, hx137_0⟩ := Kd.at_string (Kd.R_reads' HO136.out).2.2 a0 p137 q137; cases e137; replace p137 := eq_true p137; replace q137 := eq_true q137))
     go_ret
     exact ⟨by first | rfl | (simp [errW_none, errW_some] <;> rfl) | (simp [*, errW_none, errW_some] <;> rfl), by repeat (first | (with_reducible first | exact HB.out | apply bA | apply bN | apply bD) | exact HB.out)⟩
    ·
     rw [if_neg c6] at H
     exact absurd H (by simp)
   ·
    rw [if_neg c5] at H
    exact absurd H (by simp)

end Go.Proofs.Ytfagpgpeiomnpaa.P

namespace Go.Proofs.Ytfagpgpeiomnpaa.P
open Go.RowKit Go.Proofs.YtfagpgpeiomnpaaW.PrintWords Go.Proofs.YtfagpgpeiomnpaaW.PrintLast Go.Proofs.YtfagpgpeiomnpaaW.PrintMore
attribute [local go_sem] max2_int min2_int max_two min_two max_three min_three max_four min_four   -- for this text's walks alone
set_option linter.unusedVariables false
set_option linter.unusedSimpArgs false

/-! ### word_Text: function 54 -/
def word_Text.f (a0 : Int) : Option (ByteArray) := if a0 < 0 then ((word_digits.f (IntKind.u64.wrap (wrap64 (-a0))) 10 1).bind fun t138 => (if 1 + t138.size ≤ 9223372036854775807 then (some ((⟨#[45]⟩ : ByteArray) ++ t138)) else (none))) else ((word_digits.f (IntKind.u64.wrap (a0)) 10 1).bind fun t139 => (some t139))
set_option maxHeartbeats 8000000 in
set_option maxRecDepth 100000 in
theorem word_Text.calls (a0 : Int) (r : ByteArray) (w : World) (h : word_Text.f a0 = some r) :
 Calls Try.prog 54 #[.int .i64 a0] w fun e w' => e = .returned (.string r) ∧ Below w.heap.size w w' := by
 have HB := mK (Below.refl w.heap.size w)
 have H : (if a0 < 0 then ((word_digits.f (IntKind.u64.wrap (wrap64 (-a0))) 10 1).bind fun t138 => (if 1 + t138.size ≤ 9223372036854775807 then (some ((⟨#[45]⟩ : ByteArray) ++ t138)) else (none))) else ((word_digits.f (IntKind.u64.wrap (a0)) 10 1).bind fun t139 => (some t139))) = some r := h
 clear h
 by_cases c2 : a0 < 0
 ·
  rw [if_pos c2] at H
  have c2b0 : decide (a0 < 0) = true := decide_eq_true c2
  clear c2
  replace H := oB H
  obtain ⟨t138, A30, H⟩ := H
  replace H : (if 1 + t138.size ≤ 9223372036854775807 then (some ((⟨#[45]⟩ : ByteArray) ++ t138)) else (none)) = some r := H
  have A3 := mK A30
  clear A30
  by_cases c4 : 1 + t138.size ≤ 9223372036854775807
  ·
   rw [if_pos c4] at H
   have c4b0 := eq_true c4
   have c4b1 : decide (1 + t138.size ≤ 9223372036854775807) = true := decide_eq_true c4
   try have c4b2 : (9223372036854775807 < 1 + t138.size) = False := eq_false (Nat.not_lt.2 c4)
   obtain rfl := Option.some.inj H
   go_enter Try.func54, Try.ntmps54
   go_wp2_with (first | ((with_reducible refine gate_callee (f := 35) rfl ?_); refine goesL_ (some 8) rfl rfl Try.func35 (by kernel_rfl) rfl #[.int .u64 (IntKind.u64.wrap (wrap64 (-a0))), .int .u64 10, .int .i64 1] rfl (by (try simp only [List.map_toArray, List.map_cons, List.map_nil]); first | done | rfl) ?_; (with_reducible refine (word_digits.calls (IntKind.u64.wrap (wrap64 (-a0))) 10 1 t138 _ A3.out).mono ?_); rintro e w5 ⟨rfl, hb⟩; refine ⟨_, rfl, ?_⟩; have n0_ := mK (bP (by repeat (first | (with_reducible first | exact HB.out | apply bA | apply bN | apply bD) | exact HB.out)) hb); clear HB; have HB := n0_; clear n0_; (try clear hb)))
   go_ret
   exact ⟨by first | rfl | (simp [errW_none, errW_some] <;> rfl) | (simp [*, errW_none, errW_some] <;> rfl), by repeat (first | (with_reducible first | exact HB.out | apply bA | apply bN | apply bD) | exact HB.out)⟩
  ·
   rw [if_neg c4] at H
   exact absurd H (by simp)
 ·
  rw [if_neg c2] at H
  have c2b0 : decide (a0 < 0) = false := decide_eq_false c2
  clear c2
  replace H := oB H
  obtain ⟨t139, A60, H⟩ := H
  replace H : (some t139) = some r := H
  have A6 := mK A60
  clear A60
  obtain rfl := Option.some.inj H
  go_enter Try.func54, Try.ntmps54
  go_wp2_with (first | ((with_reducible refine gate_callee (f := 35) rfl ?_); refine goesL_ (some 12) rfl rfl Try.func35 (by kernel_rfl) rfl #[.int .u64 (IntKind.u64.wrap (a0)), .int .u64 10, .int .i64 1] rfl (by (try simp only [List.map_toArray, List.map_cons, List.map_nil]); first | done | rfl) ?_; (with_reducible refine (word_digits.calls (IntKind.u64.wrap (a0)) 10 1 t139 _ A6.out).mono ?_); rintro e w7 ⟨rfl, hb⟩; refine ⟨_, rfl, ?_⟩; have n0_ := mK (bP (by repeat (first | (with_reducible first | exact HB.out | apply bA | apply bN | apply bD) | exact HB.out)) hb); clear HB; have HB := n0_; clear n0_; (try clear hb)))
  go_ret
  exact ⟨by first | rfl | (simp [errW_none, errW_some] <;> rfl) | (simp [*, errW_none, errW_some] <;> rfl), by repeat (first | (with_reducible first | exact HB.out | apply bA | apply bN | apply bD) | exact HB.out)⟩

end Go.Proofs.Ytfagpgpeiomnpaa.P

namespace Go.Proofs.Ytfagpgpeiomnpaa.P
open Go.RowKit Go.Proofs.YtfagpgpeiomnpaaW.PrintWords Go.Proofs.YtfagpgpeiomnpaaW.PrintLast Go.Proofs.YtfagpgpeiomnpaaW.PrintMore
attribute [local go_sem] max2_int min2_int max_two min_two max_three min_three max_four min_four   -- for this text's walks alone
set_option linter.unusedVariables false
set_option linter.unusedSimpArgs false

/-! ### instr_fields: function 41 -/
mutual
def instr_fields.j0 : Nat → ByteArray → ByteArray → ByteArray → ByteArray → Int → Int → Int → Int → Int → Option (List ByteArray)
 | 0, _, _, _, _, _, _, _, _, _ => none
 | k + 1, x3, x4, x5, x6, x141000, x141001, x141002, x141003, x141004 => (instr_Shape.f k x141000).bind fun t146 => (if t146 = 1 then (instr_fields.j1 k x3 x4 x5 x6 t146 (t146 == 1)) else (instr_fields.j1 k x3 x4 x5 x6 t146 (t146 == 2)))
def instr_fields.j1 : Nat → ByteArray → ByteArray → ByteArray → ByteArray → Int → Bool → Option (List ByteArray)
 | 0, _, _, _, _, _, _ => none
 | k + 1, x3, x4, x5, x6, x30, x31 => if x31 = true then (some (([x3, x6] : List ByteArray))) else (if x30 = 3 then (instr_fields.j2 k x3 x4 x5 x6 x30 (x30 == 3)) else (instr_fields.j2 k x3 x4 x5 x6 x30 (x30 == 4)))
def instr_fields.j2 : Nat → ByteArray → ByteArray → ByteArray → ByteArray → Int → Bool → Option (List ByteArray)
 | 0, _, _, _, _, _, _ => none
 | k + 1, x3, x4, x5, x6, x30, x37 => if x37 = true then (some (([x3, x4, x6] : List ByteArray))) else (if x30 = 5 then (some (([x3, x4, x5] : List ByteArray))) else (if x30 = 6 then (some (([x3] : List ByteArray))) else (if x30 = 7 then (some (([x6] : List ByteArray))) else (if x30 = 8 then (some (([x6] : List ByteArray))) else (some ([] : List ByteArray))))))
end
def instr_fields.f (k : Nat) (a0_0 : Int) (a0_1 : Int) (a0_2 : Int) (a0_3 : Int) (a0_4 : Int) : Option (List ByteArray) := (word_Text.f a0_1).bind fun t141 => (if 1 + t141.size ≤ 9223372036854775807 then ((word_Text.f a0_2).bind fun t142 => (if 1 + t142.size ≤ 9223372036854775807 then ((word_Text.f a0_3).bind fun t143 => (if 1 + t143.size ≤ 9223372036854775807 then ((word_Text.f a0_4).bind fun t144 => (if a0_0 = 26 then ((word_Text.f a0_2).bind fun t145 => (instr_fields.j0 k ((⟨#[114]⟩ : ByteArray) ++ t141) t145 ((⟨#[114]⟩ : ByteArray) ++ t143) t144 a0_0 a0_1 a0_2 a0_3 a0_4)) else (instr_fields.j0 k ((⟨#[114]⟩ : ByteArray) ++ t141) ((⟨#[114]⟩ : ByteArray) ++ t142) ((⟨#[114]⟩ : ByteArray) ++ t143) t144 a0_0 a0_1 a0_2 a0_3 a0_4))) else (none))) else (none))) else (none))
theorem instr_fields.mono_l : ∀ k, (∀ y0 y1 y2 y3 y4 y5 y6 y7 y8, LeO (instr_fields.j0 k y0 y1 y2 y3 y4 y5 y6 y7 y8) (instr_fields.j0 (k + 1) y0 y1 y2 y3 y4 y5 y6 y7 y8)) ∧ (∀ y0 y1 y2 y3 y4 y5, LeO (instr_fields.j1 k y0 y1 y2 y3 y4 y5) (instr_fields.j1 (k + 1) y0 y1 y2 y3 y4 y5)) ∧ (∀ y0 y1 y2 y3 y4 y5, LeO (instr_fields.j2 k y0 y1 y2 y3 y4 y5) (instr_fields.j2 (k + 1) y0 y1 y2 y3 y4 y5))
 | 0 => ⟨fun _ _ _ _ _ _ _ _ _ r h => by simp [instr_fields.j0] at h, fun _ _ _ _ _ _ r h => by simp [instr_fields.j1] at h, fun _ _ _ _ _ _ r h => by simp [instr_fields.j2] at h⟩
 | k + 1 => by
  obtain ⟨ih0, ih1, ih2⟩ := instr_fields.mono_l k
  refine ⟨?_, ?_, ?_⟩
  ·
   intro y0 y1 y2 y3 y4 y5 y6 y7 y8
   unfold instr_fields.j0
   repeat' first
   | (with_reducible exact ih0 _ _ _ _ _ _ _ _ _)
   | (with_reducible exact ih1 _ _ _ _ _ _)
   | (with_reducible exact ih2 _ _ _ _ _ _)
   | (with_reducible exact instr_Shape.mono _ _)
   | (with_reducible exact LeO.refl _)
   | (with_reducible exact LeO.none _)
   | (with_reducible refine LeO.ite ?_ ?_)
   | (with_reducible refine LeO.bind ?_ (fun _ => ?_))
   | exact LeO.none _
   | refine LeO.ite ?_ ?_
   | refine LeO.bind ?_ (fun _ => ?_)
  ·
   intro y0 y1 y2 y3 y4 y5
   unfold instr_fields.j1
   repeat' first
   | (with_reducible exact ih0 _ _ _ _ _ _ _ _ _)
   | (with_reducible exact ih1 _ _ _ _ _ _)
   | (with_reducible exact ih2 _ _ _ _ _ _)
   | (with_reducible exact instr_Shape.mono _ _)
   | (with_reducible exact LeO.refl _)
   | (with_reducible exact LeO.none _)
   | (with_reducible refine LeO.ite ?_ ?_)
   | (with_reducible refine LeO.bind ?_ (fun _ => ?_))
   | exact LeO.none _
   | refine LeO.ite ?_ ?_
   | refine LeO.bind ?_ (fun _ => ?_)
  ·
   intro y0 y1 y2 y3 y4 y5
   unfold instr_fields.j2
   repeat' first
   | (with_reducible exact ih0 _ _ _ _ _ _ _ _ _)
   | (with_reducible exact ih1 _ _ _ _ _ _)
   | (with_reducible exact ih2 _ _ _ _ _ _)
   | (with_reducible exact instr_Shape.mono _ _)
   | (with_reducible exact LeO.refl _)
   | (with_reducible exact LeO.none _)
   | (with_reducible refine LeO.ite ?_ ?_)
   | (with_reducible refine LeO.bind ?_ (fun _ => ?_))
   | exact LeO.none _
   | refine LeO.ite ?_ ?_
   | refine LeO.bind ?_ (fun _ => ?_)
theorem instr_fields.mono : ∀ a0 a1 a2 a3 a4 k, LeO (instr_fields.f k a0 a1 a2 a3 a4) (instr_fields.f (k + 1) a0 a1 a2 a3 a4) := by
 intro a0 a1 a2 a3 a4 k
 obtain ⟨ih0, ih1, ih2⟩ := instr_fields.mono_l k
 unfold instr_fields.f
 repeat' first
  | (with_reducible exact ih0 _ _ _ _ _ _ _ _ _)
  | (with_reducible exact ih1 _ _ _ _ _ _)
  | (with_reducible exact ih2 _ _ _ _ _ _)
  | (with_reducible exact instr_Shape.mono _ _)
  | (with_reducible exact LeO.refl _)
  | (with_reducible exact LeO.none _)
  | (with_reducible refine LeO.ite ?_ ?_)
  | (with_reducible refine LeO.bind ?_ (fun _ => ?_))
  | exact LeO.none _
  | refine LeO.ite ?_ ?_
  | refine LeO.bind ?_ (fun _ => ?_)
def instr_fields.T1 : Bool × List (List Nat × List Nat) := (true, [([], []), ([0], [0]), ([1], [1]), ([2], [2]), ([], []), ([4], [4]), ([5, 2], [5]), ([6], [6]), ([], []), ([8], [8]), ([9, 6], [9]), ([10], [10]), ([], []), ([12], [12]), ([13, 10], [13]), ([3, 14, 0, 1, 2, 3], [3]), ([7, 15, 0, 1, 2, 3, 4, 5, 6, 7, 15], [7]), ([11, 16, 0, 1, 2, 3, 4, 5, 6, 7, 8, 9, 10, 11, 15, 16], [11]), ([14, 17, 0, 1, 2, 3, 4, 5, 6, 7, 8, 9, 10, 11, 12, 13, 14, 15, 16, 17], [14])])
def instr_fields.B1 : List Nat := [0, 1, 3, 7, 0, 16, 55, 119, 0, 256, 887, 1911, 0, 4096, 14199, 30591, 63487, 131071, 262143]
theorem instr_fields.tab1 : rtab .any (opsOf Try.f41 1) = instr_fields.T1 := by kernel_rfl
theorem instr_fields.bits1 : waitsOk instr_fields.T1.2 instr_fields.B1 = true := by kernel_rfl
set_option maxHeartbeats 8000000 in
set_option maxRecDepth 100000 in
theorem instr_fields.calls (k : Nat) (a0_0 : Int) (a0_1 : Int) (a0_2 : Int) (a0_3 : Int) (a0_4 : Int) (r : List ByteArray) (w : World) (h : instr_fields.f k a0_0 a0_1 a0_2 a0_3 a0_4 = some r) :
 Calls Try.prog 41 #[.agg #[.int .i64 a0_0, .int .i64 a0_1, .int .i64 a0_2, .int .i64 a0_3, .int .i64 a0_4]] w fun e w' => ∃ v0_ : Value, e = .returned (v0_) ∧ Kd.R Kd.string 9 w' w.heap.size (fun _ => True) v0_ r ∧ Below w.heap.size w w' := by
 have hu24 := Try.underlying24
 have HB := mK (Below.refl w.heap.size w)
 have H : ((word_Text.f a0_1).bind fun t141 => (if 1 + t141.size ≤ 9223372036854775807 then ((word_Text.f a0_2).bind fun t142 => (if 1 + t142.size ≤ 9223372036854775807 then ((word_Text.f a0_3).bind fun t143 => (if 1 + t143.size ≤ 9223372036854775807 then ((word_Text.f a0_4).bind fun t144 => (if a0_0 = 26 then ((word_Text.f a0_2).bind fun t145 => (instr_fields.j0 k ((⟨#[114]⟩ : ByteArray) ++ t141) t145 ((⟨#[114]⟩ : ByteArray) ++ t143) t144 a0_0 a0_1 a0_2 a0_3 a0_4)) else (instr_fields.j0 k ((⟨#[114]⟩ : ByteArray) ++ t141) ((⟨#[114]⟩ : ByteArray) ++ t142) ((⟨#[114]⟩ : ByteArray) ++ t143) t144 a0_0 a0_1 a0_2 a0_3 a0_4))) else (none))) else (none))) else (none))) = some r := h
 clear h
 replace H := oB H
 obtain ⟨t141, A20, H⟩ := H
 replace H : (if 1 + t141.size ≤ 9223372036854775807 then ((word_Text.f a0_2).bind fun t142 => (if 1 + t142.size ≤ 9223372036854775807 then ((word_Text.f a0_3).bind fun t143 => (if 1 + t143.size ≤ 9223372036854775807 then ((word_Text.f a0_4).bind fun t144 => (if a0_0 = 26 then ((word_Text.f a0_2).bind fun t145 => (instr_fields.j0 k ((⟨#[114]⟩ : ByteArray) ++ t141) t145 ((⟨#[114]⟩ : ByteArray) ++ t143) t144 a0_0 a0_1 a0_2 a0_3 a0_4)) else (instr_fields.j0 k ((⟨#[114]⟩ : ByteArray) ++ t141) ((⟨#[114]⟩ : ByteArray) ++ t142) ((⟨#[114]⟩ : ByteArray) ++ t143) t144 a0_0 a0_1 a0_2 a0_3 a0_4))) else (none))) else (none))) else (none)) = some r := H
 have A2 := mK A20
 clear A20
 by_cases c3 : 1 + t141.size ≤ 9223372036854775807
 ·
  rw [if_pos c3] at H
  have c3b0 := eq_true c3
  have c3b1 : decide (1 + t141.size ≤ 9223372036854775807) = true := decide_eq_true c3
  try have c3b2 : (9223372036854775807 < 1 + t141.size) = False := eq_false (Nat.not_lt.2 c3)
  replace H := oB H
  obtain ⟨t142, A40, H⟩ := H
  replace H : (if 1 + t142.size ≤ 9223372036854775807 then ((word_Text.f a0_3).bind fun t143 => (if 1 + t143.size ≤ 9223372036854775807 then ((word_Text.f a0_4).bind fun t144 => (if a0_0 = 26 then ((word_Text.f a0_2).bind fun t145 => (instr_fields.j0 k ((⟨#[114]⟩ : ByteArray) ++ t141) t145 ((⟨#[114]⟩ : ByteArray) ++ t143) t144 a0_0 a0_1 a0_2 a0_3 a0_4)) else (instr_fields.j0 k ((⟨#[114]⟩ : ByteArray) ++ t141) ((⟨#[114]⟩ : ByteArray) ++ t142) ((⟨#[114]⟩ : ByteArray) ++ t143) t144 a0_0 a0_1 a0_2 a0_3 a0_4))) else (none))) else (none)) = some r := H
  have A4 := mK A40
  clear A40
  by_cases c5 : 1 + t142.size ≤ 9223372036854775807
  ·
   rw [if_pos c5] at H
   have c5b0 := eq_true c5
   have c5b1 : decide (1 + t142.size ≤ 9223372036854775807) = true := decide_eq_true c5
   try have c5b2 : (9223372036854775807 < 1 + t142.size) = False := eq_false (Nat.not_lt.2 c5)
   replace H := oB H
   obtain ⟨t143, A60, H⟩ := H
   replace H : (if 1 + t143.size ≤ 9223372036854775807 then ((word_Text.f a0_4).bind fun t144 => (if a0_0 = 26 then ((word_Text.f a0_2).bind fun t145 => (instr_fields.j0 k ((⟨#[114]⟩ : ByteArray) ++ t141) t145 ((⟨#[114]⟩ : ByteArray) ++ t143) t144 a0_0 a0_1 a0_2 a0_3 a0_4)) else (instr_fields.j0 k ((⟨#[114]⟩ : ByteArray) ++ t141) ((⟨#[114]⟩ : ByteArray) ++ t142) ((⟨#[114]⟩ : ByteArray) ++ t143) t144 a0_0 a0_1 a0_2 a0_3 a0_4))) else (none)) = some r := H
   have A6 := mK A60
   clear A60
   by_cases c7 : 1 + t143.size ≤ 9223372036854775807
   ·
    rw [if_pos c7] at H
    have c7b0 := eq_true c7
    have c7b1 : decide (1 + t143.size ≤ 9223372036854775807) = true := decide_eq_true c7
    try have c7b2 : (9223372036854775807 < 1 + t143.size) = False := eq_false (Nat.not_lt.2 c7)
    replace H := oB H
    obtain ⟨t144, A80, H⟩ := H
    replace H : (if a0_0 = 26 then ((word_Text.f a0_2).bind fun t145 => (instr_fields.j0 k ((⟨#[114]⟩ : ByteArray) ++ t141) t145 ((⟨#[114]⟩ : ByteArray) ++ t143) t144 a0_0 a0_1 a0_2 a0_3 a0_4)) else (instr_fields.j0 k ((⟨#[114]⟩ : ByteArray) ++ t141) ((⟨#[114]⟩ : ByteArray) ++ t142) ((⟨#[114]⟩ : ByteArray) ++ t143) t144 a0_0 a0_1 a0_2 a0_3 a0_4)) = some r := H
    have A8 := mK A80
    clear A80
    have HC9 := mK H
    clear H
    go_enter Try.func41, Try.ntmps41
    try go_wp2_with (first | ((with_reducible refine gate_dst (N := 1) rfl ?_); refine box_event ?hg (N := 1) ?hd (cs := #[.int .i64 a0_0, .int .i64 a0_1, .int .i64 a0_2, .int .i64 a0_3, .int .i64 a0_4]) (t := 24) ?hr ?_; (case hd => rfl); (case hg => rfl); (case hr => first | (go_simp; done) | (go_simp; rfl)); intro gb140 hg w10 hbox hb; have n0_ := mK (bP (by repeat (first | (with_reducible first | exact HB.out | apply bA | apply bN | apply bD) | exact HB.out)) hb); have n1_ := mK (hbox); have n2_ := mK ((by rw [hg]; exact (bZ (by repeat (first | (with_reducible first | exact HB.out | apply bA | apply bN | apply bD) | exact HB.out))) : w.heap.size ≤ gb140)); have n3_ := mK ((by rw [hg]; exact (bZ (by repeat (first | (with_reducible first | exact HB.out | apply bA | apply bN | apply bD) | exact HB.out))) : w.heap.size ≤ gb140)); clear HB; have HB := n0_; have BK140 := n1_; have GW140 := n2_; have GE140 := n3_; clear n0_ n1_ n2_ n3_; clear hb hbox hg))
    have n0_ := mK (kD BK140.out)
    have n1_ := mK (bD HB.out)
    clear BK140
    clear HB
    have BK140 := n0_
    have HB := n1_
    clear n0_ n1_
    refine start_ (n := 19) (S := fun w' => w'.cell? ⟨gb140, 0, none⟩ = some (.int .i64 a0_0) ∧ w'.cell? ⟨gb140, 1, none⟩ = some (.int .i64 a0_1) ∧ w'.cell? ⟨gb140, 2, none⟩ = some (.int .i64 a0_2) ∧ w'.cell? ⟨gb140, 3, none⟩ = some (.int .i64 a0_3) ∧ w'.cell? ⟨gb140, 4, none⟩ = some (.int .i64 a0_4)) (ds := []) #[false, false, false, false, false, false, false, false, false, false, false, false, false, false, false, false, false, false, false] (by kernel_rfl) rfl rfl ⟨(kC BK140.out 0).trans rfl, (kC BK140.out 1).trans rfl, (kC BK140.out 2).trans rfl, (kC BK140.out 3).trans rfl, (kC BK140.out 4).trans rfl⟩ (fun hHeld => ?_); refine with_tabW instr_fields.tab1 instr_fields.bits1 (fun HT_ HW_ => ?_)
    generalize w10.drew = w11 at BK140 HB hHeld ⊢
    refine pure_ (i := 0) (N := some 7) (v := ?_) (a' := ?_) #[true, false, false, false, false, false, false, false, false, false, false, false, false, false, false, false, false, false, false] rfl rfl (any_of HT_.out (by kernel_rfl)) (fun _ _ _ h => h) (Or.inl ⟨by rfl, ?_⟩) ?_ ?_
    rotate_left
    ·
     intro w'
     go_simp
     with_reducible rfl
    rotate_left
    ·
     simp only [Act.put, List.setIfInBounds_toArray, List.set_cons_zero, List.set_cons_succ, i64_w, i32_w]
     rfl
    refine pure_ (i := 4) (N := some 11) (v := ?_) (a' := ?_) #[true, false, false, false, true, false, false, false, false, false, false, false, false, false, false, false, false, false, false] rfl rfl (any_of HT_.out (by kernel_rfl)) (fun _ _ _ h => h) (Or.inl ⟨by rfl, ?_⟩) ?_ ?_
    rotate_left
    ·
     intro w'
     go_simp
     with_reducible rfl
    rotate_left
    ·
     simp only [Act.put, List.setIfInBounds_toArray, List.set_cons_zero, List.set_cons_succ, i64_w, i32_w]
     rfl
    refine pure_ (i := 8) (N := some 15) (v := ?_) (a' := ?_) #[true, false, false, false, true, false, false, false, true, false, false, false, false, false, false, false, false, false, false] rfl rfl (any_of HT_.out (by kernel_rfl)) (fun _ _ _ h => h) (Or.inl ⟨by rfl, ?_⟩) ?_ ?_
    rotate_left
    ·
     intro w'
     go_simp
     with_reducible rfl
    rotate_left
    ·
     simp only [Act.put, List.setIfInBounds_toArray, List.set_cons_zero, List.set_cons_succ, i64_w, i32_w]
     rfl
    refine pure_ (i := 12) (N := some 19) (v := ?_) (a' := ?_) #[true, false, false, false, true, false, false, false, true, false, false, false, true, false, false, false, false, false, false] rfl rfl (any_of HT_.out (by kernel_rfl)) (fun _ _ _ h => h) (Or.inl ⟨by rfl, ?_⟩) ?_ ?_
    rotate_left
    ·
     intro w'
     go_simp
     with_reducible rfl
    rotate_left
    ·
     simp only [Act.put, List.setIfInBounds_toArray, List.set_cons_zero, List.set_cons_succ, i64_w, i32_w]
     rfl
    refine take_ (i := 1) (N := some 8) (v := ?_) (a' := ?_) #[true, true, false, false, true, false, false, false, true, false, false, false, true, false, false, false, false, false, false] rfl rfl (take_ofW HT_.out HW_.out (by kernel_rfl)) (fun _ _ _ h => h) (Or.inl ⟨by rfl, ?_⟩) hHeld ?_ ?_
    rotate_left
    ·
     rintro w' ⟨s0, s1, s2, s3, s4⟩
     go_simp
     with_reducible rfl
    rotate_left
    ·
     simp only [Act.put, List.setIfInBounds_toArray, List.set_cons_zero, List.set_cons_succ, i64_w, i32_w]
     rfl
    refine take_ (i := 5) (N := some 12) (v := ?_) (a' := ?_) #[true, true, false, false, true, true, false, false, true, false, false, false, true, false, false, false, false, false, false] rfl rfl (take_ofW HT_.out HW_.out (by kernel_rfl)) (fun _ _ _ h => h) (Or.inl ⟨by rfl, ?_⟩) hHeld ?_ ?_
    rotate_left
    ·
     rintro w' ⟨s0, s1, s2, s3, s4⟩
     go_simp
     with_reducible rfl
    rotate_left
    ·
     simp only [Act.put, List.setIfInBounds_toArray, List.set_cons_zero, List.set_cons_succ, i64_w, i32_w]
     rfl
    refine take_ (i := 9) (N := some 16) (v := ?_) (a' := ?_) #[true, true, false, false, true, true, false, false, true, true, false, false, true, false, false, false, false, false, false] rfl rfl (take_ofW HT_.out HW_.out (by kernel_rfl)) (fun _ _ _ h => h) (Or.inl ⟨by rfl, ?_⟩) hHeld ?_ ?_
    rotate_left
    ·
     rintro w' ⟨s0, s1, s2, s3, s4⟩
     go_simp
     with_reducible rfl
    rotate_left
    ·
     simp only [Act.put, List.setIfInBounds_toArray, List.set_cons_zero, List.set_cons_succ, i64_w, i32_w]
     rfl
    refine take_ (i := 13) (N := some 20) (v := ?_) (a' := ?_) #[true, true, false, false, true, true, false, false, true, true, false, false, true, true, false, false, false, false, false] rfl rfl (take_ofW HT_.out HW_.out (by kernel_rfl)) (fun _ _ _ h => h) (Or.inl ⟨by rfl, ?_⟩) hHeld ?_ ?_
    rotate_left
    ·
     rintro w' ⟨s0, s1, s2, s3, s4⟩
     go_simp
     with_reducible rfl
    rotate_left
    ·
     simp only [Act.put, List.setIfInBounds_toArray, List.set_cons_zero, List.set_cons_succ, i64_w, i32_w]
     rfl
    refine one_ (i := 2) (N := some 9) #[true, true, true, false, true, true, false, false, true, true, false, false, true, true, false, false, false, false, false] rfl rfl (one_of HT_.out (by kernel_rfl)) (by decide) (fun K hK => ?_)
    refine goes_ Try.func54 (by kernel_rfl) rfl #[.int .i64 a0_1] (by rfl) rfl rfl (by (try simp only [List.map_toArray, List.map_cons, List.map_nil]); first | done | rfl) ?_
    with_reducible refine (word_Text.calls a0_1 t141 _ A2.out).mono ?_
    rintro e w12 ⟨rfl, hb⟩
    refine ⟨_, rfl, ?_⟩
    have n0_ := mK (kB (g := gb140) (o := o5 a0_0 a0_1 a0_2 a0_3 a0_4 24) (by (with_reducible repeat (first | refine kN ?_ _ | refine kD ?_ | refine kA ?_ _)); exact BK140.out) hb)
    have n1_ := mK (bP (by repeat (first | (with_reducible first | exact HB.out | apply bA | apply bN | apply bD | refine bS ?_ GE140.out) | exact HB.out)) hb)
    clear BK140
    clear HB
    have BK140 := n0_
    have HB := n1_
    clear n0_ n1_
    (try clear hb)
    refine hK.out _ _ ⟨(kC BK140.out 0).trans rfl, (kC BK140.out 1).trans rfl, (kC BK140.out 2).trans rfl, (kC BK140.out 3).trans rfl, (kC BK140.out 4).trans rfl⟩ (fun hHeld => ?_)
    clear hK K
    refine norm_ (a' := ?_) ?_ ?_
    rotate_left
    ·
     show Act.put _ (some 9) _ = _
     simp only [Act.put, List.setIfInBounds_toArray, List.set_cons_zero, List.set_cons_succ, i64_w, i32_w]
     rfl
    refine pure_ (i := 3) (N := some 10) (v := ?_) (a' := ?_) #[true, true, true, true, true, true, false, false, true, true, false, false, true, true, false, false, false, false, false] rfl rfl (any_of HT_.out (by kernel_rfl)) (fun _ _ _ h => h) (Or.inl ⟨by rfl, ?_⟩) ?_ ?_
    rotate_left
    ·
     intro w'
     go_simp
     with_reducible rfl
    rotate_left
    ·
     simp only [Act.put, List.setIfInBounds_toArray, List.set_cons_zero, List.set_cons_succ, i64_w, i32_w]
     rfl
    refine one_ (i := 6) (N := some 13) #[true, true, true, true, true, true, true, false, true, true, false, false, true, true, false, false, false, false, false] rfl rfl (one_of HT_.out (by kernel_rfl)) (by decide) (fun K hK => ?_)
    refine goes_ Try.func54 (by kernel_rfl) rfl #[.int .i64 a0_2] (by rfl) rfl rfl (by (try simp only [List.map_toArray, List.map_cons, List.map_nil]); first | done | rfl) ?_
    with_reducible refine (word_Text.calls a0_2 t142 _ A4.out).mono ?_
    rintro e w13 ⟨rfl, hb⟩
    refine ⟨_, rfl, ?_⟩
    have n0_ := mK (kB (g := gb140) (o := o5 a0_0 a0_1 a0_2 a0_3 a0_4 24) (by (with_reducible repeat (first | refine kN ?_ _ | refine kD ?_ | refine kA ?_ _)); exact BK140.out) hb)
    have n1_ := mK (bP (by repeat (first | (with_reducible first | exact HB.out | apply bA | apply bN | apply bD | refine bS ?_ GE140.out) | exact HB.out)) hb)
    clear BK140
    clear HB
    have BK140 := n0_
    have HB := n1_
    clear n0_ n1_
    (try clear hb)
    refine hK.out _ _ ⟨(kC BK140.out 0).trans rfl, (kC BK140.out 1).trans rfl, (kC BK140.out 2).trans rfl, (kC BK140.out 3).trans rfl, (kC BK140.out 4).trans rfl⟩ (fun hHeld => ?_)
    clear hK K
    refine norm_ (a' := ?_) ?_ ?_
    rotate_left
    ·
     show Act.put _ (some 13) _ = _
     simp only [Act.put, List.setIfInBounds_toArray, List.set_cons_zero, List.set_cons_succ, i64_w, i32_w]
     rfl
    refine pure_ (i := 7) (N := some 14) (v := ?_) (a' := ?_) #[true, true, true, true, true, true, true, true, true, true, false, false, true, true, false, false, false, false, false] rfl rfl (any_of HT_.out (by kernel_rfl)) (fun _ _ _ h => h) (Or.inl ⟨by rfl, ?_⟩) ?_ ?_
    rotate_left
    ·
     intro w'
     go_simp
     with_reducible rfl
    rotate_left
    ·
     simp only [Act.put, List.setIfInBounds_toArray, List.set_cons_zero, List.set_cons_succ, i64_w, i32_w]
     rfl
    refine one_ (i := 10) (N := some 17) #[true, true, true, true, true, true, true, true, true, true, true, false, true, true, false, false, false, false, false] rfl rfl (one_of HT_.out (by kernel_rfl)) (by decide) (fun K hK => ?_)
    refine goes_ Try.func54 (by kernel_rfl) rfl #[.int .i64 a0_3] (by rfl) rfl rfl (by (try simp only [List.map_toArray, List.map_cons, List.map_nil]); first | done | rfl) ?_
    with_reducible refine (word_Text.calls a0_3 t143 _ A6.out).mono ?_
    rintro e w14 ⟨rfl, hb⟩
    refine ⟨_, rfl, ?_⟩
    have n0_ := mK (kB (g := gb140) (o := o5 a0_0 a0_1 a0_2 a0_3 a0_4 24) (by (with_reducible repeat (first | refine kN ?_ _ | refine kD ?_ | refine kA ?_ _)); exact BK140.out) hb)
    have n1_ := mK (bP (by repeat (first | (with_reducible first | exact HB.out | apply bA | apply bN | apply bD | refine bS ?_ GE140.out) | exact HB.out)) hb)
    clear BK140
    clear HB
    have BK140 := n0_
    have HB := n1_
    clear n0_ n1_
    (try clear hb)
    refine hK.out _ _ ⟨(kC BK140.out 0).trans rfl, (kC BK140.out 1).trans rfl, (kC BK140.out 2).trans rfl, (kC BK140.out 3).trans rfl, (kC BK140.out 4).trans rfl⟩ (fun hHeld => ?_)
    clear hK K
    refine norm_ (a' := ?_) ?_ ?_
    rotate_left
    ·
     show Act.put _ (some 17) _ = _
     simp only [Act.put, List.setIfInBounds_toArray, List.set_cons_zero, List.set_cons_succ, i64_w, i32_w]
     rfl
    refine pure_ (i := 11) (N := some 18) (v := ?_) (a' := ?_) #[true, true, true, true, true, true, true, true, true, true, true, true, true, true, false, false, false, false, false] rfl rfl (any_of HT_.out (by kernel_rfl)) (fun _ _ _ h => h) (Or.inl ⟨by rfl, ?_⟩) ?_ ?_
    rotate_left
    ·
     intro w'
     go_simp
     with_reducible rfl
    rotate_left
    ·
     simp only [Act.put, List.setIfInBounds_toArray, List.set_cons_zero, List.set_cons_succ, i64_w, i32_w]
     rfl
    refine one_ (i := 14) (N := some 21) #[true, true, true, true, true, true, true, true, true, true, true, true, true, true, true, false, false, false, false] rfl rfl (one_of HT_.out (by kernel_rfl)) (by decide) (fun K hK => ?_)
    refine goes_ Try.func54 (by kernel_rfl) rfl #[.int .i64 a0_4] (by rfl) rfl rfl (by (try simp only [List.map_toArray, List.map_cons, List.map_nil]); first | done | rfl) ?_
    with_reducible refine (word_Text.calls a0_4 t144 _ A8.out).mono ?_
    rintro e w15 ⟨rfl, hb⟩
    refine ⟨_, rfl, ?_⟩
    have n0_ := mK (kB (g := gb140) (o := o5 a0_0 a0_1 a0_2 a0_3 a0_4 24) (by (with_reducible repeat (first | refine kN ?_ _ | refine kD ?_ | refine kA ?_ _)); exact BK140.out) hb)
    have n1_ := mK (bP (by repeat (first | (with_reducible first | exact HB.out | apply bA | apply bN | apply bD | refine bS ?_ GE140.out) | exact HB.out)) hb)
    clear BK140
    clear HB
    have BK140 := n0_
    have HB := n1_
    clear n0_ n1_
    (try clear hb)
    refine hK.out _ _ ⟨(kC BK140.out 0).trans rfl, (kC BK140.out 1).trans rfl, (kC BK140.out 2).trans rfl, (kC BK140.out 3).trans rfl, (kC BK140.out 4).trans rfl⟩ (fun hHeld => ?_)
    clear hK K
    refine norm_ (a' := ?_) ?_ ?_
    rotate_left
    ·
     show Act.put _ (some 21) _ = _
     simp only [Act.put, List.setIfInBounds_toArray, List.set_cons_zero, List.set_cons_succ, i64_w, i32_w]
     rfl
    refine pure_ (i := 15) (N := some 3) (v := ?_) (a' := ?_) #[true, true, true, true, true, true, true, true, true, true, true, true, true, true, true, true, false, false, false] rfl rfl (any_of HT_.out (by kernel_rfl)) (fun _ _ _ h => h) (Or.inl ⟨by rfl, ?_⟩) ?_ ?_
    rotate_left
    ·
     intro w'
     go_simp
     with_reducible rfl
    rotate_left
    ·
     simp only [Act.put, List.setIfInBounds_toArray, List.set_cons_zero, List.set_cons_succ, i64_w, i32_w]
     rfl
    refine pure_ (i := 16) (N := some 4) (v := ?_) (a' := ?_) #[true, true, true, true, true, true, true, true, true, true, true, true, true, true, true, true, true, false, false] rfl rfl (any_of HT_.out (by kernel_rfl)) (fun _ _ _ h => h) (Or.inl ⟨by rfl, ?_⟩) ?_ ?_
    rotate_left
    ·
     intro w'
     go_simp
     with_reducible rfl
    rotate_left
    ·
     simp only [Act.put, List.setIfInBounds_toArray, List.set_cons_zero, List.set_cons_succ, i64_w, i32_w]
     rfl
    refine pure_ (i := 17) (N := some 5) (v := ?_) (a' := ?_) #[true, true, true, true, true, true, true, true, true, true, true, true, true, true, true, true, true, true, false] rfl rfl (any_of HT_.out (by kernel_rfl)) (fun _ _ _ h => h) (Or.inl ⟨by rfl, ?_⟩) ?_ ?_
    rotate_left
    ·
     intro w'
     go_simp
     with_reducible rfl
    rotate_left
    ·
     simp only [Act.put, List.setIfInBounds_toArray, List.set_cons_zero, List.set_cons_succ, i64_w, i32_w]
     rfl
    refine pure_ (i := 18) (N := some 6) (v := ?_) (a' := ?_) #[true, true, true, true, true, true, true, true, true, true, true, true, true, true, true, true, true, true, true] rfl rfl (any_of HT_.out (by kernel_rfl)) (fun _ _ _ h => h) (Or.inl ⟨by rfl, ?_⟩) ?_ ?_
    rotate_left
    ·
     intro w'
     go_simp
     with_reducible rfl
    rotate_left
    ·
     simp only [Act.put, List.setIfInBounds_toArray, List.set_cons_zero, List.set_cons_succ, i64_w, i32_w]
     rfl
    refine done_ (done_of HT_.out (by kernel_rfl)) ?_
    obtain ⟨hcz16_0, hcz16_1, hcz16_2, hcz16_3, hcz16_4, hfz16_0, hfz16_1, hfz16_2, hfz16_3, hfz16_4⟩ := cf5 BK140.out
    go_upto_if 24 with (fail)
    go_cut [4] (fun v4 wc => ∃ (kq : Nat) (x4_8 : ByteArray), v4 = .string x4_8 ∧ Aside0 (instr_fields.j0 kq ((⟨#[114]⟩ : ByteArray) ++ t141) x4_8 ((⟨#[114]⟩ : ByteArray) ++ t143) t144 a0_0 a0_1 a0_2 a0_3 a0_4 = some r) ∧ Aside0 (kq ≤ k) ∧ Aside0 (wc.heap[gb140]? = some (o5 a0_0 a0_1 a0_2 a0_3 a0_4 24)) ∧ Aside0 (Below w.heap.size w wc))
    case first =>
     have H := HC9.out
     clear HC9
     by_cases c17 : a0_0 = 26
     ·
      rw [if_pos c17] at H
      have c17b0 : (a0_0 == 26) = true := beq_iff_eq.mpr c17
      have c17b1 : (a0_0 != 26) = false := bR c17
      clear c17
      (first | rw [c17b0] | (simp only [i64_w, i32_w]; rw [c17b0]) | skip)
      replace H := oB H
      obtain ⟨t145, A180, H⟩ := H
      replace H : (instr_fields.j0 k ((⟨#[114]⟩ : ByteArray) ++ t141) t145 ((⟨#[114]⟩ : ByteArray) ++ t143) t144 a0_0 a0_1 a0_2 a0_3 a0_4) = some r := H
      have A18 := mK A180
      clear A180
      have H' := mK H
      clear H
      obtain ⟨hcz19_0, hcz19_1, hcz19_2, hcz19_3, hcz19_4, hfz19_0, hfz19_1, hfz19_2, hfz19_3, hfz19_4⟩ := cf5 BK140.out
      go_wp2_with (first | ((with_reducible refine gate_callee (f := 54) rfl ?_); refine goesL_ (some 27) rfl rfl Try.func54 (by kernel_rfl) rfl #[.int .i64 a0_2] rfl (by (try simp only [List.map_toArray, List.map_cons, List.map_nil]); first | done | rfl) ?_; (with_reducible refine (word_Text.calls a0_2 t145 _ A18.out).mono ?_); rintro e w20 ⟨rfl, hb⟩; refine ⟨_, rfl, ?_⟩; have n0_ := mK (kB (g := gb140) (o := o5 a0_0 a0_1 a0_2 a0_3 a0_4 24) (by (with_reducible repeat (first | refine kN ?_ _ | refine kD ?_ | refine kA ?_ _)); exact BK140.out) hb); have n1_ := mK (bP (by repeat (first | (with_reducible first | exact HB.out | apply bA | apply bN | apply bD | refine bS ?_ GE140.out) | exact HB.out)) hb); clear BK140; clear HB; have BK140 := n0_; have HB := n1_; clear n0_ n1_; (try clear hb)))
      go_meet
      case rel => exact ⟨_, (t145), (by first | rfl | (simp; done) | (simp [*]; done)), H', ⟨by first | omega | exact Nat.le_refl _⟩, ⟨by (with_reducible repeat (first | refine kN ?_ _ | refine kD ?_ | refine kA ?_ _)); exact BK140.out⟩, ⟨by repeat (first | (with_reducible first | exact HB.out | apply bA | apply bN | apply bD | refine bS ?_ GE140.out) | exact HB.out)⟩⟩
     ·
      rw [if_neg c17] at H
      have c17b0 : (a0_0 == 26) = false := bQ c17
      have c17b1 : (a0_0 != 26) = true := bne_iff_ne.mpr c17
      (first | rw [c17b0] | (simp only [i64_w, i32_w]; rw [c17b0]) | skip)
      have H' := mK H
      clear H
      go_wp2
      go_meet
      case rel => exact ⟨_, ((⟨#[114]⟩ : ByteArray) ++ t142), (by first | rfl | (simp; done) | (simp [*]; done)), H', ⟨by first | omega | exact Nat.le_refl _⟩, ⟨by (with_reducible repeat (first | refine kN ?_ _ | refine kD ?_ | refine kA ?_ _)); exact BK140.out⟩, ⟨by repeat (first | (with_reducible first | exact HB.out | apply bA | apply bN | apply bD | refine bS ?_ GE140.out) | exact HB.out)⟩⟩
    case rest =>
     clear HC9
     (try clear c3); (try clear c3b0); (try clear c3b1); (try clear c3b2); (try clear c5); (try clear c5b0); (try clear c5b1); (try clear c5b2); (try clear c7); (try clear c7b0); (try clear c7b1); (try clear c7b2); (try clear hcz16_0); (try clear hcz16_1); (try clear hcz16_2); (try clear hcz16_3); (try clear hcz16_4); (try clear hfz16_0); (try clear hfz16_1); (try clear hfz16_2); (try clear hfz16_3); (try clear hfz16_4)
     obtain ⟨kq, x4_8, rfl, HA, HJ8, BK140, HB⟩ := hcut
     cases kq with
     | zero => exact absurd HA.out (by simp [instr_fields.j0])
     | succ kj8 =>
      have H := HA.out
      clear HA
      simp only [instr_fields.j0] at H
      replace H := oB H
      obtain ⟨t146, A210, H⟩ := H
      replace H : (if t146 = 1 then (instr_fields.j1 kj8 ((⟨#[114]⟩ : ByteArray) ++ t141) x4_8 ((⟨#[114]⟩ : ByteArray) ++ t143) t144 t146 (t146 == 1)) else (instr_fields.j1 kj8 ((⟨#[114]⟩ : ByteArray) ++ t141) x4_8 ((⟨#[114]⟩ : ByteArray) ++ t143) t144 t146 (t146 == 2))) = some r := H
      have A21 := mK A210
      clear A210
      have HC22 := mK H
      clear H
      obtain ⟨hcz23_0, hcz23_1, hcz23_2, hcz23_3, hcz23_4, hfz23_0, hfz23_1, hfz23_2, hfz23_3, hfz23_4⟩ := cf5 BK140.out
      go_upto_if 31 with (first | ((with_reducible refine gate_callee (f := 36) rfl ?_); refine goesL_ (some 30) rfl rfl Try.func36 (by kernel_rfl) rfl #[.int .i64 a0_0] rfl (by (try simp only [List.map_toArray, List.map_cons, List.map_nil]); first | done | rfl) ?_; (with_reducible refine (instr_Shape.calls kj8 a0_0 t146 _ A21.out).mono ?_); rintro e w' ⟨rfl, ⟨nd, rfl⟩⟩; refine ⟨_, rfl, ?_⟩))
      (try simp only [Act.put, List.setIfInBounds_toArray, List.set_cons_zero, List.set_cons_succ])
      go_cut [31] (fun v31 wc => ∃ (kq : Nat) (x31_21 : Bool), v31 = .bool x31_21 ∧ Aside0 (instr_fields.j1 kq ((⟨#[114]⟩ : ByteArray) ++ t141) x4_8 ((⟨#[114]⟩ : ByteArray) ++ t143) t144 t146 x31_21 = some r) ∧ Aside0 (kq ≤ kj8) ∧ Aside0 (wc.heap[gb140]? = some (o5 a0_0 a0_1 a0_2 a0_3 a0_4 24)) ∧ Aside0 (Below w.heap.size w wc))
      case first =>
       have H := HC22.out
       clear HC22
       by_cases c24 : t146 = 1
       ·
        rw [if_pos c24] at H
        have c24b0 : (t146 == 1) = true := beq_iff_eq.mpr c24
        have c24b1 : (t146 != 1) = false := bR c24
        clear c24
        (first | rw [c24b0] | (simp only [i64_w, i32_w]; rw [c24b0]) | skip)
        have H' := mK H
        clear H
        go_wp2
        go_meet
        case rel => exact ⟨_, ((t146 == 1)), (by first | rfl | (simp; done) | (simp [*]; done)), H', ⟨by have := HJ8.out; first | omega | exact Nat.le_refl _⟩, ⟨by (with_reducible repeat (first | refine kN ?_ _ | refine kD ?_ | refine kA ?_ _)); exact BK140.out⟩, ⟨by repeat (first | (with_reducible first | exact HB.out | apply bA | apply bN | apply bD | refine bS ?_ GE140.out) | exact HB.out)⟩⟩
       ·
        rw [if_neg c24] at H
        have c24b0 : (t146 == 1) = false := bQ c24
        have c24b1 : (t146 != 1) = true := bne_iff_ne.mpr c24
        (first | rw [c24b0] | (simp only [i64_w, i32_w]; rw [c24b0]) | skip)
        have H' := mK H
        clear H
        go_wp2
        go_meet
        case rel => exact ⟨_, ((t146 == 2)), (by first | rfl | (simp; done) | (simp [*]; done)), H', ⟨by have := HJ8.out; first | omega | exact Nat.le_refl _⟩, ⟨by (with_reducible repeat (first | refine kN ?_ _ | refine kD ?_ | refine kA ?_ _)); exact BK140.out⟩, ⟨by repeat (first | (with_reducible first | exact HB.out | apply bA | apply bN | apply bD | refine bS ?_ GE140.out) | exact HB.out)⟩⟩
      case rest =>
       clear HC22
       (try clear c3); (try clear c3b0); (try clear c3b1); (try clear c3b2); (try clear c5); (try clear c5b0); (try clear c5b1); (try clear c5b2); (try clear c7); (try clear c7b0); (try clear c7b1); (try clear c7b2); (try clear hcz16_0); (try clear hcz16_1); (try clear hcz16_2); (try clear hcz16_3); (try clear hcz16_4); (try clear hcz23_0); (try clear hcz23_1); (try clear hcz23_2); (try clear hcz23_3); (try clear hcz23_4); (try clear hfz16_0); (try clear hfz16_1); (try clear hfz16_2); (try clear hfz16_3); (try clear hfz16_4); (try clear hfz23_0); (try clear hfz23_1); (try clear hfz23_2); (try clear hfz23_3); (try clear hfz23_4)
       obtain ⟨kq, x31_21, rfl, HA, HJ21, BK140, HB⟩ := hcut
       cases kq with
       | zero => exact absurd HA.out (by simp [instr_fields.j1])
       | succ kj21 =>
        have H := HA.out
        clear HA
        simp only [instr_fields.j1] at H
        by_cases c25 : x31_21 = true
        ·
         subst c25
         have H1 : (some (([((⟨#[114]⟩ : ByteArray) ++ t141), t144] : List ByteArray))) = some r := by rw [if_pos rfl] at H; exact H
         clear H
         have H := H1
         clear H1
         obtain ⟨y147, hy147⟩ : ∃ y_ : List ByteArray, y_ = (([((⟨#[114]⟩ : ByteArray) ++ t141), t144] : List ByteArray)) := ⟨_, rfl⟩
         replace H : (some y147) = some r := by first | (rw [hy147]; with_reducible exact H) | (have H2_ := (Option.bind_some _ _).symm.trans H; rw [hy147]; with_reducible exact H2_) | (have H2_ := (Option.bind_some _ _).symm.trans H; with_reducible exact H2_) | with_reducible exact H | (rw [hy147]; exact H) | exact H
         have Ny147 := mK hy147
         clear hy147
         obtain rfl := Option.some.inj H
         go_wp2_with (first | ((with_reducible refine gate_dst (N := 36) rfl ?_); refine Kd.R_lit Kd.string _ 9 ?hg (N := 36) ?hd (xs := ([((⟨#[114]⟩ : ByteArray) ++ t141), t144] : List ByteArray)) (inner := [.string ((⟨#[114]⟩ : ByteArray) ++ t141), .string t144]) (ok := fun _ => True) (okp := fun _ => True) ?hr ?hp (fun _ hk => hk) trivial (Below.refl _ _) (Nat.le_refl _) (by simp) ?_; (case hd => rfl); (case hg => rfl); (case hr => first | (go_simp; done) | (go_simp; rfl)); (case hp => exact (Reps.one (show Kd.M Kd.string _ _ _ ((⟨#[114]⟩ : ByteArray) ++ t141) [.string ((⟨#[114]⟩ : ByteArray) ++ t141)] from rfl) (Reps.one (show Kd.M Kd.string _ _ _ t144 [.string t144] from rfl) (Reps.none _ _)))); intro v148 w26 ho27 hb hg_ hnew_; clear hg_ hnew_; (first | rw [← Ny147.out] at ho27 | (simp only [Int.reduceToNat] at ho27; rw [← Ny147.out] at ho27)); have n0_ := mK (Kd.R_lower ho27 (bZ (by repeat (first | (with_reducible first | exact HB.out | apply bA | apply bN | apply bD | refine bS ?_ GE140.out) | exact HB.out)))); have n1_ := mK (kB (g := gb140) (o := o5 a0_0 a0_1 a0_2 a0_3 a0_4 24) (by (with_reducible repeat (first | refine kN ?_ _ | refine kD ?_ | refine kA ?_ _)); exact BK140.out) hb); have n2_ := mK (bP (by repeat (first | (with_reducible first | exact HB.out | apply bA | apply bN | apply bD | refine bS ?_ GE140.out) | exact HB.out)) hb); clear BK140; clear HB; have HO149 := n0_; have BK140 := n1_; have HB := n2_; clear n0_ n1_ n2_; clear hb ho27))
         go_ret
         exact ⟨_, by first | rfl | (simp [errW_none, errW_some] <;> rfl) | (simp [*, errW_none, errW_some] <;> rfl), by (with_reducible repeat (first | apply Kd.R_alloc | apply Kd.R_drewN | apply Kd.R_drew)); exact HO149.out, by repeat (first | (with_reducible first | exact HB.out | apply bA | apply bN | apply bD | refine bS ?_ GE140.out) | exact HB.out)⟩
        ·
         replace c25 := Bool.eq_false_iff.mpr c25
         subst c25
         have H1 : (if t146 = 3 then (instr_fields.j2 kj21 ((⟨#[114]⟩ : ByteArray) ++ t141) x4_8 ((⟨#[114]⟩ : ByteArray) ++ t143) t144 t146 (t146 == 3)) else (instr_fields.j2 kj21 ((⟨#[114]⟩ : ByteArray) ++ t141) x4_8 ((⟨#[114]⟩ : ByteArray) ++ t143) t144 t146 (t146 == 4))) = some r := by rw [if_neg (show ¬ (false = true) by decide)] at H; exact H
         clear H
         have H := H1
         clear H1
         have HC28 := mK H
         clear H
         go_upto_if 37 with (fail)
         go_cut [37] (fun v37 wc => ∃ (kq : Nat) (x37_27 : Bool), v37 = .bool x37_27 ∧ Aside0 (instr_fields.j2 kq ((⟨#[114]⟩ : ByteArray) ++ t141) x4_8 ((⟨#[114]⟩ : ByteArray) ++ t143) t144 t146 x37_27 = some r) ∧ Aside0 (kq ≤ kj21) ∧ Aside0 (wc.heap[gb140]? = some (o5 a0_0 a0_1 a0_2 a0_3 a0_4 24)) ∧ Aside0 (Below w.heap.size w wc))
         case first =>
          have H := HC28.out
          clear HC28
          by_cases c29 : t146 = 3
          ·
           rw [if_pos c29] at H
           have c29b0 : (t146 == 3) = true := beq_iff_eq.mpr c29
           have c29b1 : (t146 != 3) = false := bR c29
           clear c29
           (first | rw [c29b0] | (simp only [i64_w, i32_w]; rw [c29b0]) | skip)
           have H' := mK H
           clear H
           go_wp2
           go_meet
           case rel => exact ⟨_, ((t146 == 3)), (by first | rfl | (simp; done) | (simp [*]; done)), H', ⟨by have := HJ8.out; have := HJ21.out; first | omega | exact Nat.le_refl _⟩, ⟨by (with_reducible repeat (first | refine kN ?_ _ | refine kD ?_ | refine kA ?_ _)); exact BK140.out⟩, ⟨by repeat (first | (with_reducible first | exact HB.out | apply bA | apply bN | apply bD | refine bS ?_ GE140.out) | exact HB.out)⟩⟩
          ·
           rw [if_neg c29] at H
           have c29b0 : (t146 == 3) = false := bQ c29
           have c29b1 : (t146 != 3) = true := bne_iff_ne.mpr c29
           (first | rw [c29b0] | (simp only [i64_w, i32_w]; rw [c29b0]) | skip)
           have H' := mK H
           clear H
           go_wp2
           go_meet
           case rel => exact ⟨_, ((t146 == 4)), (by first | rfl | (simp; done) | (simp [*]; done)), H', ⟨by have := HJ8.out; have := HJ21.out; first | omega | exact Nat.le_refl _⟩, ⟨by (with_reducible repeat (first | refine kN ?_ _ | refine kD ?_ | refine kA ?_ _)); exact BK140.out⟩, ⟨by repeat (first | (with_reducible first | exact HB.out | apply bA | apply bN | apply bD | refine bS ?_ GE140.out) | exact HB.out)⟩⟩
         case rest =>
          clear HC28
          (try clear c3); (try clear c3b0); (try clear c3b1); (try clear c3b2); (try clear c5); (try clear c5b0); (try clear c5b1); (try clear c5b2); (try clear c7); (try clear c7b0); (try clear c7b1); (try clear c7b2); (try clear c25); (try clear hcz16_0); (try clear hcz16_1); (try clear hcz16_2); (try clear hcz16_3); (try clear hcz16_4); (try clear hcz23_0); (try clear hcz23_1); (try clear hcz23_2); (try clear hcz23_3); (try clear hcz23_4); (try clear hfz16_0); (try clear hfz16_1); (try clear hfz16_2); (try clear hfz16_3); (try clear hfz16_4); (try clear hfz23_0); (try clear hfz23_1); (try clear hfz23_2); (try clear hfz23_3); (try clear hfz23_4)
          obtain ⟨kq, x37_27, rfl, HA, HJ27, BK140, HB⟩ := hcut
          cases kq with
          | zero => exact absurd HA.out (by simp [instr_fields.j2])
          | succ kj27 =>
           have H := HA.out
           clear HA
           simp only [instr_fields.j2] at H
           by_cases c30 : x37_27 = true
           ·
            subst c30
            have H1 : (some (([((⟨#[114]⟩ : ByteArray) ++ t141), x4_8, t144] : List ByteArray))) = some r := by rw [if_pos rfl] at H; exact H
            clear H
            have H := H1
            clear H1
            obtain ⟨y150, hy150⟩ : ∃ y_ : List ByteArray, y_ = (([((⟨#[114]⟩ : ByteArray) ++ t141), x4_8, t144] : List ByteArray)) := ⟨_, rfl⟩
            replace H : (some y150) = some r := by first | (rw [hy150]; with_reducible exact H) | (have H2_ := (Option.bind_some _ _).symm.trans H; rw [hy150]; with_reducible exact H2_) | (have H2_ := (Option.bind_some _ _).symm.trans H; with_reducible exact H2_) | with_reducible exact H | (rw [hy150]; exact H) | exact H
            have Ny150 := mK hy150
            clear hy150
            obtain rfl := Option.some.inj H
            go_wp2_with (first | ((with_reducible refine gate_dst (N := 43) rfl ?_); refine Kd.R_lit Kd.string _ 9 ?hg (N := 43) ?hd (xs := ([((⟨#[114]⟩ : ByteArray) ++ t141), x4_8, t144] : List ByteArray)) (inner := [.string ((⟨#[114]⟩ : ByteArray) ++ t141), .string x4_8, .string t144]) (ok := fun _ => True) (okp := fun _ => True) ?hr ?hp (fun _ hk => hk) trivial (Below.refl _ _) (Nat.le_refl _) (by simp) ?_; (case hd => rfl); (case hg => rfl); (case hr => first | (go_simp; done) | (go_simp; rfl)); (case hp => exact (Reps.one (show Kd.M Kd.string _ _ _ ((⟨#[114]⟩ : ByteArray) ++ t141) [.string ((⟨#[114]⟩ : ByteArray) ++ t141)] from rfl) (Reps.one (show Kd.M Kd.string _ _ _ x4_8 [.string x4_8] from rfl) (Reps.one (show Kd.M Kd.string _ _ _ t144 [.string t144] from rfl) (Reps.none _ _))))); intro v151 w31 ho32 hb hg_ hnew_; clear hg_ hnew_; (first | rw [← Ny150.out] at ho32 | (simp only [Int.reduceToNat] at ho32; rw [← Ny150.out] at ho32)); have n0_ := mK (Kd.R_lower ho32 (bZ (by repeat (first | (with_reducible first | exact HB.out | apply bA | apply bN | apply bD | refine bS ?_ GE140.out) | exact HB.out)))); have n1_ := mK (kB (g := gb140) (o := o5 a0_0 a0_1 a0_2 a0_3 a0_4 24) (by (with_reducible repeat (first | refine kN ?_ _ | refine kD ?_ | refine kA ?_ _)); exact BK140.out) hb); have n2_ := mK (bP (by repeat (first | (with_reducible first | exact HB.out | apply bA | apply bN | apply bD | refine bS ?_ GE140.out) | exact HB.out)) hb); clear BK140; clear HB; have HO152 := n0_; have BK140 := n1_; have HB := n2_; clear n0_ n1_ n2_; clear hb ho32))
            go_ret
            exact ⟨_, by first | rfl | (simp [errW_none, errW_some] <;> rfl) | (simp [*, errW_none, errW_some] <;> rfl), by (with_reducible repeat (first | apply Kd.R_alloc | apply Kd.R_drewN | apply Kd.R_drew)); exact HO152.out, by repeat (first | (with_reducible first | exact HB.out | apply bA | apply bN | apply bD | refine bS ?_ GE140.out) | exact HB.out)⟩
           ·
            replace c30 := Bool.eq_false_iff.mpr c30
            subst c30
            have H1 : (if t146 = 5 then (some (([((⟨#[114]⟩ : ByteArray) ++ t141), x4_8, ((⟨#[114]⟩ : ByteArray) ++ t143)] : List ByteArray))) else (if t146 = 6 then (some (([((⟨#[114]⟩ : ByteArray) ++ t141)] : List ByteArray))) else (if t146 = 7 then (some (([t144] : List ByteArray))) else (if t146 = 8 then (some (([t144] : List ByteArray))) else (some ([] : List ByteArray)))))) = some r := by rw [if_neg (show ¬ (false = true) by decide)] at H; exact H
            clear H
            have H := H1
            clear H1
            by_cases c33 : t146 = 5
            ·
             rw [if_pos c33] at H
             have c33b0 : (t146 == 5) = true := beq_iff_eq.mpr c33
             have c33b1 : (t146 != 5) = false := bR c33
             clear c33
             obtain ⟨y153, hy153⟩ : ∃ y_ : List ByteArray, y_ = (([((⟨#[114]⟩ : ByteArray) ++ t141), x4_8, ((⟨#[114]⟩ : ByteArray) ++ t143)] : List ByteArray)) := ⟨_, rfl⟩
             replace H : (some y153) = some r := by first | (rw [hy153]; with_reducible exact H) | (have H2_ := (Option.bind_some _ _).symm.trans H; rw [hy153]; with_reducible exact H2_) | (have H2_ := (Option.bind_some _ _).symm.trans H; with_reducible exact H2_) | with_reducible exact H | (rw [hy153]; exact H) | exact H
             have Ny153 := mK hy153
             clear hy153
             obtain rfl := Option.some.inj H
             go_wp2_with (first | ((with_reducible refine gate_dst (N := 49) rfl ?_); refine Kd.R_lit Kd.string _ 9 ?hg (N := 49) ?hd (xs := ([((⟨#[114]⟩ : ByteArray) ++ t141), x4_8, ((⟨#[114]⟩ : ByteArray) ++ t143)] : List ByteArray)) (inner := [.string ((⟨#[114]⟩ : ByteArray) ++ t141), .string x4_8, .string ((⟨#[114]⟩ : ByteArray) ++ t143)]) (ok := fun _ => True) (okp := fun _ => True) ?hr ?hp (fun _ hk => hk) trivial (Below.refl _ _) (Nat.le_refl _) (by simp) ?_; (case hd => rfl); (case hg => rfl); (case hr => first | (go_simp; done) | (go_simp; rfl)); (case hp => exact (Reps.one (show Kd.M Kd.string _ _ _ ((⟨#[114]⟩ : ByteArray) ++ t141) [.string ((⟨#[114]⟩ : ByteArray) ++ t141)] from rfl) (Reps.one (show Kd.M Kd.string _ _ _ x4_8 [.string x4_8] from rfl) (Reps.one (show Kd.M Kd.string _ _ _ ((⟨#[114]⟩ : ByteArray) ++ t143) [.string ((⟨#[114]⟩ : ByteArray) ++ t143)] from rfl) (Reps.none _ _))))); intro v154 w34 ho35 hb hg_ hnew_; clear hg_ hnew_; (first | rw [← Ny153.out] at ho35 | (simp only [Int.reduceToNat] at ho35; rw [← Ny153.out] at ho35)); have n0_ := mK (Kd.R_lower ho35 (bZ (by repeat (first | (with_reducible first | exact HB.out | apply bA | apply bN | apply bD | refine bS ?_ GE140.out) | exact HB.out)))); have n1_ := mK (kB (g := gb140) (o := o5 a0_0 a0_1 a0_2 a0_3 a0_4 24) (by (with_reducible repeat (first | refine kN ?_ _ | refine kD ?_ | refine kA ?_ _)); exact BK140.out) hb); have n2_ := mK (bP (by repeat (first | (with_reducible first | exact HB.out | apply bA | apply bN | apply bD | refine bS ?_ GE140.out) | exact HB.out)) hb); clear BK140; clear HB; have HO155 := n0_; have BK140 := n1_; have HB := n2_; clear n0_ n1_ n2_; clear hb ho35))
             go_ret
             exact ⟨_, by first | rfl | (simp [errW_none, errW_some] <;> rfl) | (simp [*, errW_none, errW_some] <;> rfl), by (with_reducible repeat (first | apply Kd.R_alloc | apply Kd.R_drewN | apply Kd.R_drew)); exact HO155.out, by repeat (first | (with_reducible first | exact HB.out | apply bA | apply bN | apply bD | refine bS ?_ GE140.out) | exact HB.out)⟩
            ·
             rw [if_neg c33] at H
             have c33b0 : (t146 == 5) = false := bQ c33
             have c33b1 : (t146 != 5) = true := bne_iff_ne.mpr c33
             by_cases c36 : t146 = 6
             ·
              rw [if_pos c36] at H
              have c36b0 : (t146 == 6) = true := beq_iff_eq.mpr c36
              have c36b1 : (t146 != 6) = false := bR c36
              clear c36
              obtain ⟨y156, hy156⟩ : ∃ y_ : List ByteArray, y_ = (([((⟨#[114]⟩ : ByteArray) ++ t141)] : List ByteArray)) := ⟨_, rfl⟩
              replace H : (some y156) = some r := by first | (rw [hy156]; with_reducible exact H) | (have H2_ := (Option.bind_some _ _).symm.trans H; rw [hy156]; with_reducible exact H2_) | (have H2_ := (Option.bind_some _ _).symm.trans H; with_reducible exact H2_) | with_reducible exact H | (rw [hy156]; exact H) | exact H
              have Ny156 := mK hy156
              clear hy156
              obtain rfl := Option.some.inj H
              go_wp2_with (first | ((with_reducible refine gate_dst (N := 53) rfl ?_); refine Kd.R_lit Kd.string _ 9 ?hg (N := 53) ?hd (xs := ([((⟨#[114]⟩ : ByteArray) ++ t141)] : List ByteArray)) (inner := [.string ((⟨#[114]⟩ : ByteArray) ++ t141)]) (ok := fun _ => True) (okp := fun _ => True) ?hr ?hp (fun _ hk => hk) trivial (Below.refl _ _) (Nat.le_refl _) (by simp) ?_; (case hd => rfl); (case hg => rfl); (case hr => first | (go_simp; done) | (go_simp; rfl)); (case hp => exact (Reps.one (show Kd.M Kd.string _ _ _ ((⟨#[114]⟩ : ByteArray) ++ t141) [.string ((⟨#[114]⟩ : ByteArray) ++ t141)] from rfl) (Reps.none _ _))); intro v157 w37 ho38 hb hg_ hnew_; clear hg_ hnew_; (first | rw [← Ny156.out] at ho38 | (simp only [Int.reduceToNat] at ho38; rw [← Ny156.out] at ho38)); have n0_ := mK (Kd.R_lower ho38 (bZ (by repeat (first | (with_reducible first | exact HB.out | apply bA | apply bN | apply bD | refine bS ?_ GE140.out) | exact HB.out)))); have n1_ := mK (kB (g := gb140) (o := o5 a0_0 a0_1 a0_2 a0_3 a0_4 24) (by (with_reducible repeat (first | refine kN ?_ _ | refine kD ?_ | refine kA ?_ _)); exact BK140.out) hb); have n2_ := mK (bP (by repeat (first | (with_reducible first | exact HB.out | apply bA | apply bN | apply bD | refine bS ?_ GE140.out) | exact HB.out)) hb); clear BK140; clear HB; have HO158 := n0_; have BK140 := n1_; have HB := n2_; clear n0_ n1_ n2_; clear hb ho38))
              go_ret
              exact ⟨_, by first | rfl | (simp [errW_none, errW_some] <;> rfl) | (simp [*, errW_none, errW_some] <;> rfl), by (with_reducible repeat (first | apply Kd.R_alloc | apply Kd.R_drewN | apply Kd.R_drew)); exact HO158.out, by repeat (first | (with_reducible first | exact HB.out | apply bA | apply bN | apply bD | refine bS ?_ GE140.out) | exact HB.out)⟩
             ·
              rw [if_neg c36] at H
              have c36b0 : (t146 == 6) = false := bQ c36
              have c36b1 : (t146 != 6) = true := bne_iff_ne.mpr c36
              by_cases c39 : t146 = 7
              ·
               rw [if_pos c39] at H
               have c39b0 : (t146 == 7) = true := beq_iff_eq.mpr c39
               have c39b1 : (t146 != 7) = false := bR c39
               clear c39
               obtain ⟨y159, hy159⟩ : ∃ y_ : List ByteArray, y_ = (([t144] : List ByteArray)) := ⟨_, rfl⟩
               replace H : (some y159) = some r := by first | (rw [hy159]; with_reducible exact H) | (have H2_ := (Option.bind_some _ _).symm.trans H; rw [hy159]; with_reducible exact H2_) | (have H2_ := (Option.bind_some _ _).symm.trans H; with_reducible exact H2_) | with_reducible exact H | (rw [hy159]; exact H) | exact H
               have Ny159 := mK hy159
               clear hy159
               obtain rfl := Option.some.inj H
               go_wp2_with (first | ((with_reducible refine gate_dst (N := 58) rfl ?_); refine Kd.R_lit Kd.string _ 9 ?hg (N := 58) ?hd (xs := ([t144] : List ByteArray)) (inner := [.string t144]) (ok := fun _ => True) (okp := fun _ => True) ?hr ?hp (fun _ hk => hk) trivial (Below.refl _ _) (Nat.le_refl _) (by simp) ?_; (case hd => rfl); (case hg => rfl); (case hr => first | (go_simp; done) | (go_simp; rfl)); (case hp => exact (Reps.one (show Kd.M Kd.string _ _ _ t144 [.string t144] from rfl) (Reps.none _ _))); intro v160 w40 ho41 hb hg_ hnew_; clear hg_ hnew_; (first | rw [← Ny159.out] at ho41 | (simp only [Int.reduceToNat] at ho41; rw [← Ny159.out] at ho41)); have n0_ := mK (Kd.R_lower ho41 (bZ (by repeat (first | (with_reducible first | exact HB.out | apply bA | apply bN | apply bD | refine bS ?_ GE140.out) | exact HB.out)))); have n1_ := mK (kB (g := gb140) (o := o5 a0_0 a0_1 a0_2 a0_3 a0_4 24) (by (with_reducible repeat (first | refine kN ?_ _ | refine kD ?_ | refine kA ?_ _)); exact BK140.out) hb); have n2_ := mK (bP (by repeat (first | (with_reducible first | exact HB.out | apply bA | apply bN | apply bD | refine bS ?_ GE140.out) | exact HB.out)) hb); clear BK140; clear HB; have HO161 := n0_; have BK140 := n1_; have HB := n2_; clear n0_ n1_ n2_; clear hb ho41))
               go_ret
               exact ⟨_, by first | rfl | (simp [errW_none, errW_some] <;> rfl) | (simp [*, errW_none, errW_some] <;> rfl), by (with_reducible repeat (first | apply Kd.R_alloc | apply Kd.R_drewN | apply Kd.R_drew)); exact HO161.out, by repeat (first | (with_reducible first | exact HB.out | apply bA | apply bN | apply bD | refine bS ?_ GE140.out) | exact HB.out)⟩
              ·
               rw [if_neg c39] at H
               have c39b0 : (t146 == 7) = false := bQ c39
               have c39b1 : (t146 != 7) = true := bne_iff_ne.mpr c39
               by_cases c42 : t146 = 8
               ·
                rw [if_pos c42] at H
                have c42b0 : (t146 == 8) = true := beq_iff_eq.mpr c42
                have c42b1 : (t146 != 8) = false := bR c42
                clear c42
                obtain ⟨y162, hy162⟩ : ∃ y_ : List ByteArray, y_ = (([t144] : List ByteArray)) := ⟨_, rfl⟩
                replace H : (some y162) = some r := by first | (rw [hy162]; with_reducible exact H) | (have H2_ := (Option.bind_some _ _).symm.trans H; rw [hy162]; with_reducible exact H2_) | (have H2_ := (Option.bind_some _ _).symm.trans H; with_reducible exact H2_) | with_reducible exact H | (rw [hy162]; exact H) | exact H
                have Ny162 := mK hy162
                clear hy162
                obtain rfl := Option.some.inj H
                go_wp2_with (first | ((with_reducible refine gate_dst (N := 58) rfl ?_); refine Kd.R_lit Kd.string _ 9 ?hg (N := 58) ?hd (xs := ([t144] : List ByteArray)) (inner := [.string t144]) (ok := fun _ => True) (okp := fun _ => True) ?hr ?hp (fun _ hk => hk) trivial (Below.refl _ _) (Nat.le_refl _) (by simp) ?_; (case hd => rfl); (case hg => rfl); (case hr => first | (go_simp; done) | (go_simp; rfl)); (case hp => exact (Reps.one (show Kd.M Kd.string _ _ _ t144 [.string t144] from rfl) (Reps.none _ _))); intro v163 w43 ho44 hb hg_ hnew_; clear hg_ hnew_; (first | rw [← Ny162.out] at ho44 | (simp only [Int.reduceToNat] at ho44; rw [← Ny162.out] at ho44)); have n0_ := mK (Kd.R_lower ho44 (bZ (by repeat (first | (with_reducible first | exact HB.out | apply bA | apply bN | apply bD | refine bS ?_ GE140.out) | exact HB.out)))); have n1_ := mK (kB (g := gb140) (o := o5 a0_0 a0_1 a0_2 a0_3 a0_4 24) (by (with_reducible repeat (first | refine kN ?_ _ | refine kD ?_ | refine kA ?_ _)); exact BK140.out) hb); have n2_ := mK (bP (by repeat (first | (with_reducible first | exact HB.out | apply bA | apply bN | apply bD | refine bS ?_ GE140.out) | exact HB.out)) hb); clear BK140; clear HB; have HO164 := n0_; have BK140 := n1_; have HB := n2_; clear n0_ n1_ n2_; clear hb ho44))
                go_ret
                exact ⟨_, by first | rfl | (simp [errW_none, errW_some] <;> rfl) | (simp [*, errW_none, errW_some] <;> rfl), by (with_reducible repeat (first | apply Kd.R_alloc | apply Kd.R_drewN | apply Kd.R_drew)); exact HO164.out, by repeat (first | (with_reducible first | exact HB.out | apply bA | apply bN | apply bD | refine bS ?_ GE140.out) | exact HB.out)⟩
               ·
                rw [if_neg c42] at H
                have c42b0 : (t146 == 8) = false := bQ c42
                have c42b1 : (t146 != 8) = true := bne_iff_ne.mpr c42
                obtain rfl := Option.some.inj H
                go_wp2
                go_ret
                exact ⟨_, by first | rfl | (simp [errW_none, errW_some] <;> rfl) | (simp [*, errW_none, errW_some] <;> rfl), by first | exact Kd.R_nil _ _ _ _ _ | exact Kd.N_nil _ _ _ _ _ | exact Kd.V_nil _ _ _ _ _ | exact Kd.Q_nil _ _ _ _ _ | exact Kd.S_nil _ _ _ _ _, by repeat (first | (with_reducible first | exact HB.out | apply bA | apply bN | apply bD | refine bS ?_ GE140.out) | exact HB.out)⟩
   ·
    rw [if_neg c7] at H
    exact absurd H (by simp)
  ·
   rw [if_neg c5] at H
   exact absurd H (by simp)
 ·
  rw [if_neg c3] at H
  exact absurd H (by simp)

end Go.Proofs.Ytfagpgpeiomnpaa.P

namespace Go.Proofs.Ytfagpgpeiomnpaa.P
open Go.RowKit Go.Proofs.YtfagpgpeiomnpaaW.PrintWords Go.Proofs.YtfagpgpeiomnpaaW.PrintLast Go.Proofs.YtfagpgpeiomnpaaW.PrintMore
attribute [local go_sem] max2_int min2_int max_two min_two max_three min_three max_four min_four   -- for this text's walks alone
set_option linter.unusedVariables false
set_option linter.unusedSimpArgs false

/-! ### instr_Text: function 21 -/
def instr_Text.l0 : Nat → ByteArray → List ByteArray → Int → Int → Option (ByteArray × Int)
 | 0, _, _, _, _ => none
 | k + 1, x5, x17, x18, x19 => if x19 < x18 then (if 0 ≤ x19 then (if x19 < (x17.length : Int) then (if x19 > 0 then (if x5.size + 1 ≤ 9223372036854775807 then (if 1 + (rdOf ByteArray.empty x17 x19).size ≤ 9223372036854775807 then (if (x5 ++ (⟨#[44]⟩ : ByteArray)).size + ((⟨#[32]⟩ : ByteArray) ++ (rdOf ByteArray.empty x17 x19)).size ≤ 9223372036854775807 then (instr_Text.l0 k ((x5 ++ (⟨#[44]⟩ : ByteArray)) ++ ((⟨#[32]⟩ : ByteArray) ++ (rdOf ByteArray.empty x17 x19))) x17 x18 (wrap64 (x19 + 1))) else (none)) else (none)) else (none)) else (if 1 + (rdOf ByteArray.empty x17 x19).size ≤ 9223372036854775807 then (if x5.size + ((⟨#[32]⟩ : ByteArray) ++ (rdOf ByteArray.empty x17 x19)).size ≤ 9223372036854775807 then (instr_Text.l0 k (x5 ++ ((⟨#[32]⟩ : ByteArray) ++ (rdOf ByteArray.empty x17 x19))) x17 x18 (wrap64 (x19 + 1))) else (none)) else (none))) else (none)) else (none)) else (some (x5, 0))
def instr_Text.f (k : Nat) (a0_0 : Int) (a0_1 : Int) (a0_2 : Int) (a0_3 : Int) (a0_4 : Int) : Option (ByteArray × Int) := (instr_Check.f k a0_0 a0_1 a0_2 a0_3 a0_4).bind fun t166 => (if t166 = 0 then ((instr_Name.f a0_0).bind fun t167 => ((instr_fields.f k a0_0 a0_1 a0_2 a0_3 a0_4).bind fun t168 => (instr_Text.l0 k t167 t168 (t168.length : Int) 0))) else (some ((⟨#[]⟩ : ByteArray), t166)))
theorem instr_Text.mono_l : ∀ k, (∀ y0 y1 y2 y3, LeO (instr_Text.l0 k y0 y1 y2 y3) (instr_Text.l0 (k + 1) y0 y1 y2 y3))
 | 0 => fun _ _ _ _ r h => by simp [instr_Text.l0] at h
 | k + 1 => by
  have ih0 := instr_Text.mono_l k
  ·
   intro y0 y1 y2 y3
   unfold instr_Text.l0
   repeat' first
   | (with_reducible exact ih0 _ _ _ _)
   | (with_reducible exact instr_Check.mono _ _ _ _ _ _)
   | (with_reducible exact instr_fields.mono _ _ _ _ _ _)
   | (with_reducible exact LeO.refl _)
   | (with_reducible exact LeO.none _)
   | (with_reducible refine LeO.ite ?_ ?_)
   | (with_reducible refine LeO.bind ?_ (fun _ => ?_))
   | exact LeO.none _
   | refine LeO.ite ?_ ?_
   | refine LeO.bind ?_ (fun _ => ?_)
theorem instr_Text.mono : ∀ a0 a1 a2 a3 a4 k, LeO (instr_Text.f k a0 a1 a2 a3 a4) (instr_Text.f (k + 1) a0 a1 a2 a3 a4) := by
 intro a0 a1 a2 a3 a4 k
 have ih0 := instr_Text.mono_l k
 unfold instr_Text.f
 repeat' first
  | (with_reducible exact ih0 _ _ _ _)
  | (with_reducible exact instr_Check.mono _ _ _ _ _ _)
  | (with_reducible exact instr_fields.mono _ _ _ _ _ _)
  | (with_reducible exact LeO.refl _)
  | (with_reducible exact LeO.none _)
  | (with_reducible refine LeO.ite ?_ ?_)
  | (with_reducible refine LeO.bind ?_ (fun _ => ?_))
  | exact LeO.none _
  | refine LeO.ite ?_ ?_
  | refine LeO.bind ?_ (fun _ => ?_)
set_option maxHeartbeats 8000000 in
set_option maxRecDepth 100000 in
theorem instr_Text.calls (k : Nat) (a0_0 : Int) (a0_1 : Int) (a0_2 : Int) (a0_3 : Int) (a0_4 : Int) (r1 : ByteArray) (r2 : Int) (w : World) (h : instr_Text.f k a0_0 a0_1 a0_2 a0_3 a0_4 = some (r1, r2)) :
 Calls Try.prog 21 #[.agg #[.int .i64 a0_0, .int .i64 a0_1, .int .i64 a0_2, .int .i64 a0_3, .int .i64 a0_4]] w fun e w' => e = .returned (.tuple #[.string r1, .int .i64 r2]) ∧ Below w.heap.size w w' := by
 have hu24 := Try.underlying24
 have HB := mK (Below.refl w.heap.size w)
 have H : ((instr_Check.f k a0_0 a0_1 a0_2 a0_3 a0_4).bind fun t166 => (if t166 = 0 then ((instr_Name.f a0_0).bind fun t167 => ((instr_fields.f k a0_0 a0_1 a0_2 a0_3 a0_4).bind fun t168 => (instr_Text.l0 k t167 t168 (t168.length : Int) 0))) else (some ((⟨#[]⟩ : ByteArray), t166)))) = some (r1, r2) := h
 clear h
 replace H := oB H
 obtain ⟨t166, A20, H⟩ := H
 replace H : (if t166 = 0 then ((instr_Name.f a0_0).bind fun t167 => ((instr_fields.f k a0_0 a0_1 a0_2 a0_3 a0_4).bind fun t168 => (instr_Text.l0 k t167 t168 (t168.length : Int) 0))) else (some ((⟨#[]⟩ : ByteArray), t166))) = some (r1, r2) := H
 have A2 := mK A20
 clear A20
 by_cases c3 : t166 = 0
 ·
  rw [if_pos c3] at H
  have c3b0 : (t166 == 0) = true := beq_iff_eq.mpr c3
  have c3b1 : (t166 != 0) = false := bR c3
  clear c3
  replace H := oB H
  obtain ⟨t167, A40, H⟩ := H
  replace H : ((instr_fields.f k a0_0 a0_1 a0_2 a0_3 a0_4).bind fun t168 => (instr_Text.l0 k t167 t168 (t168.length : Int) 0)) = some (r1, r2) := H
  have A4 := mK A40
  clear A40
  replace H := oB H
  obtain ⟨t168, A50, H⟩ := H
  replace H : (instr_Text.l0 k t167 t168 (t168.length : Int) 0) = some (r1, r2) := H
  have A5 := mK A50
  clear A50
  have H' := mK H
  clear H
  go_enter Try.func21, Try.ntmps21
  go_wp2_with (first | ((with_reducible refine gate_dst (N := 1) rfl ?_); refine box_event ?hg (N := 1) ?hd (cs := #[.int .i64 a0_0, .int .i64 a0_1, .int .i64 a0_2, .int .i64 a0_3, .int .i64 a0_4]) (t := 24) ?hr ?_; (case hd => rfl); (case hg => rfl); (case hr => first | (go_simp; done) | (go_simp; rfl)); intro gb165 hg w6 hbox hb; have n0_ := mK (bP (by repeat (first | (with_reducible first | exact HB.out | apply bA | apply bN | apply bD) | exact HB.out)) hb); have n1_ := mK (hbox); have n2_ := mK ((by rw [hg]; exact (bZ (by repeat (first | (with_reducible first | exact HB.out | apply bA | apply bN | apply bD) | exact HB.out))) : w.heap.size ≤ gb165)); have n3_ := mK ((by rw [hg]; exact (bZ (by repeat (first | (with_reducible first | exact HB.out | apply bA | apply bN | apply bD) | exact HB.out))) : w.heap.size ≤ gb165)); clear HB; have HB := n0_; have BK165 := n1_; have GW165 := n2_; have GE165 := n3_; clear n0_ n1_ n2_ n3_; clear hb hbox hg; obtain ⟨hcz7_0, hcz7_1, hcz7_2, hcz7_3, hcz7_4, hfz7_0, hfz7_1, hfz7_2, hfz7_3, hfz7_4⟩ := cf5 BK165.out) | ((with_reducible refine gate_callee (f := 39) rfl ?_); refine goesL_ (some 9) rfl rfl Try.func39 (by kernel_rfl) rfl #[.agg #[.int .i64 a0_0, .int .i64 a0_1, .int .i64 a0_2, .int .i64 a0_3, .int .i64 a0_4]] rfl (by (try simp only [List.map_toArray, List.map_cons, List.map_nil]); first | done | rfl) ?_; (with_reducible refine (instr_Check.calls k a0_0 a0_1 a0_2 a0_3 a0_4 t166 _ A2.out).mono ?_); rintro e w8 ⟨rfl, hb⟩; refine ⟨_, rfl, ?_⟩; have n0_ := mK (kB (g := gb165) (o := o5 a0_0 a0_1 a0_2 a0_3 a0_4 24) (by (with_reducible repeat (first | refine kN ?_ _ | refine kD ?_ | refine kA ?_ _)); exact BK165.out) hb); have n1_ := mK (bP (by repeat (first | (with_reducible first | exact HB.out | apply bA | apply bN | apply bD | refine bS ?_ GE165.out) | exact HB.out)) hb); clear BK165; clear HB; have BK165 := n0_; have HB := n1_; clear n0_ n1_; (try clear hb); obtain ⟨hcz9_0, hcz9_1, hcz9_2, hcz9_3, hcz9_4, hfz9_0, hfz9_1, hfz9_2, hfz9_3, hfz9_4⟩ := cf5 BK165.out) | ((with_reducible refine gate_callee (f := 40) rfl ?_); refine goesL_ (some 15) rfl rfl Try.func40 (by kernel_rfl) rfl #[.int .i64 a0_0] rfl (by (try simp only [List.map_toArray, List.map_cons, List.map_nil]); first | done | rfl) ?_; (with_reducible refine (instr_Name.calls a0_0 t167 _ A4.out).mono ?_); rintro e w10 ⟨rfl, hb⟩; refine ⟨_, rfl, ?_⟩; have n0_ := mK (kB (g := gb165) (o := o5 a0_0 a0_1 a0_2 a0_3 a0_4 24) (by (with_reducible repeat (first | refine kN ?_ _ | refine kD ?_ | refine kA ?_ _)); exact BK165.out) hb); have n1_ := mK (bP (by repeat (first | (with_reducible first | exact HB.out | apply bA | apply bN | apply bD | refine bS ?_ GE165.out) | exact HB.out)) hb); clear BK165; clear HB; have BK165 := n0_; have HB := n1_; clear n0_ n1_; (try clear hb); obtain ⟨hcz11_0, hcz11_1, hcz11_2, hcz11_3, hcz11_4, hfz11_0, hfz11_1, hfz11_2, hfz11_3, hfz11_4⟩ := cf5 BK165.out) | ((with_reducible refine gate_callee (f := 41) rfl ?_); refine goesL_ (some 17) rfl rfl Try.func41 (by kernel_rfl) rfl #[.agg #[.int .i64 a0_0, .int .i64 a0_1, .int .i64 a0_2, .int .i64 a0_3, .int .i64 a0_4]] rfl (by (try simp only [List.map_toArray, List.map_cons, List.map_nil]); first | done | rfl) ?_; (with_reducible refine (instr_fields.calls k a0_0 a0_1 a0_2 a0_3 a0_4 t168 _ A5.out).mono ?_); rintro e w12 ⟨v169, rfl, ho0, hb⟩; refine ⟨_, rfl, ?_⟩; have n0_ := mK (Kd.R_lower ho0 (bZ (by repeat (first | (with_reducible first | exact HB.out | apply bA | apply bN | apply bD | refine bS ?_ GE165.out) | exact HB.out)))); have n1_ := mK (kB (g := gb165) (o := o5 a0_0 a0_1 a0_2 a0_3 a0_4 24) (by (with_reducible repeat (first | refine kN ?_ _ | refine kD ?_ | refine kA ?_ _)); exact BK165.out) hb); have n2_ := mK (bP (by repeat (first | (with_reducible first | exact HB.out | apply bA | apply bN | apply bD | refine bS ?_ GE165.out) | exact HB.out)) hb); clear BK165; clear HB; have HO170 := n0_; have BK165 := n1_; have HB := n2_; clear n0_ n1_ n2_; (try clear hb); (try clear ho0); obtain ⟨Ao13, co13, eo13⟩ := Kd.R_slice HO170.out; subst eo13))
  go_loopg [5, 19] k (fun kq v5 v19 w' => ∃ (x5_1 : ByteArray) (x19_1 : Int), v5 = .string x5_1 ∧ v19 = .int .i64 x19_1 ∧ Aside0 (instr_Text.l0 kq x5_1 t168 (t168.length : Int) x19_1 = some (r1, r2)) ∧ Aside0 (kq ≤ k) ∧ Aside0 (Kd.R Kd.string 9 w' w.heap.size (fun _ => True) (.slice Ao13 t168.length co13) t168) ∧ Aside0 (w'.heap[gb165]? = some (o5 a0_0 a0_1 a0_2 a0_3 a0_4 24)) ∧ Aside0 (Below w.heap.size w w'))
  case atStart => exact ⟨(t167), (0), (by first | rfl | (simp; done) | (simp [*]; done)), (by first | rfl | (simp; done) | (simp [*]; done)), H', ⟨Nat.le_refl _⟩, ⟨by (with_reducible repeat (first | apply Kd.R_alloc | apply Kd.R_drewN | apply Kd.R_drew)); exact HO170.out⟩, ⟨by (with_reducible repeat (first | refine kN ?_ _ | refine kD ?_ | refine kA ?_ _)); exact BK165.out⟩, ⟨by repeat (first | (with_reducible first | exact HB.out | apply bA | apply bN | apply bD | refine bS ?_ GE165.out) | exact HB.out)⟩⟩
  case round =>
   clear H'
   (try clear c3); (try clear c3b0); (try clear c3b1); (try clear hcz11_0); (try clear hcz11_1); (try clear hcz11_2); (try clear hcz11_3); (try clear hcz11_4); (try clear hcz7_0); (try clear hcz7_1); (try clear hcz7_2); (try clear hcz7_3); (try clear hcz7_4); (try clear hcz9_0); (try clear hcz9_1); (try clear hcz9_2); (try clear hcz9_3); (try clear hcz9_4); (try clear hfz11_0); (try clear hfz11_1); (try clear hfz11_2); (try clear hfz11_3); (try clear hfz11_4); (try clear hfz7_0); (try clear hfz7_1); (try clear hfz7_2); (try clear hfz7_3); (try clear hfz7_4); (try clear hfz9_0); (try clear hfz9_1); (try clear hfz9_2); (try clear hfz9_3); (try clear hfz9_4)
   obtain ⟨x5_1, x19_1, rfl, rfl, HA, HK1, HO_17, BK165, HB⟩ := hrel
   cases gk with
   | zero => exact absurd HA.out (by simp [instr_Text.l0])
   | succ k1 =>
    have H := HA.out
    clear HA
    simp only [instr_Text.l0] at H
    by_cases c14 : x19_1 < (t168.length : Int)
    ·
     rw [if_pos c14] at H
     have c14b0 : decide (x19_1 < (t168.length : Int)) = true := decide_eq_true c14
     clear c14
     by_cases c15 : 0 ≤ x19_1
     ·
      rw [if_pos c15] at H
      have c15b0 : decide (0 ≤ x19_1) = true := decide_eq_true c15
      clear c15
      by_cases c16 : x19_1 < (t168.length : Int)
      ·
       rw [if_pos c16] at H
       have c16b0 : decide (x19_1 < (t168.length : Int)) = true := decide_eq_true c16
       clear c16
       by_cases c17 : x19_1 > 0
       ·
        rw [if_pos c17] at H
        have c17b0 : decide (0 < x19_1) = true := decide_eq_true c17
        clear c17
        by_cases c18 : x5_1.size + 1 ≤ 9223372036854775807
        ·
         rw [if_pos c18] at H
         have c18b0 := eq_true c18
         have c18b1 : decide (x5_1.size + 1 ≤ 9223372036854775807) = true := decide_eq_true c18
         try have c18b2 : (9223372036854775807 < x5_1.size + 1) = False := eq_false (Nat.not_lt.2 c18)
         by_cases c19 : 1 + (rdOf ByteArray.empty t168 x19_1).size ≤ 9223372036854775807
         ·
          rw [if_pos c19] at H
          have c19b0 := eq_true c19
          have c19b1 : decide (1 + (rdOf ByteArray.empty t168 x19_1).size ≤ 9223372036854775807) = true := decide_eq_true c19
          try have c19b2 : (9223372036854775807 < 1 + (rdOf ByteArray.empty t168 x19_1).size) = False := eq_false (Nat.not_lt.2 c19)
          by_cases c20 : (x5_1 ++ (⟨#[44]⟩ : ByteArray)).size + ((⟨#[32]⟩ : ByteArray) ++ (rdOf ByteArray.empty t168 x19_1)).size ≤ 9223372036854775807
          ·
           rw [if_pos c20] at H
           have c20b0 := eq_true c20
           have c20b1 : decide ((x5_1 ++ (⟨#[44]⟩ : ByteArray)).size + ((⟨#[32]⟩ : ByteArray) ++ (rdOf ByteArray.empty t168 x19_1)).size ≤ 9223372036854775807) = true := decide_eq_true c20
           try have c20b2 : (9223372036854775807 < (x5_1 ++ (⟨#[44]⟩ : ByteArray)).size + ((⟨#[32]⟩ : ByteArray) ++ (rdOf ByteArray.empty t168 x19_1)).size) = False := eq_false (Nat.not_lt.2 c20)
           have H' := mK H
           clear H
           have p171 : 0 ≤ (x19_1 : Int) := of_decide_eq_true (by first | (with_reducible assumption) | assumption)
           have q171 : x19_1 < (t168.length : Int) := of_decide_eq_true (by first | (with_reducible assumption) | assumption)
           obtain ⟨ad171, e171, hx171_0⟩ := Kd.at_string (Kd.R_reads' HO_17.out).2.2 x19_1 p171 q171
           cases e171
           replace p171 := eq_true p171
           replace q171 := eq_true q171
           go_wp2
           go_roundg k1
           case measure => have := HK1.out; omega
           case rel => exact ⟨((x5_1 ++ (⟨#[44]⟩ : ByteArray)) ++ ((⟨#[32]⟩ : ByteArray) ++ (rdOf ByteArray.empty t168 x19_1))), (wrap64 (x19_1 + 1)), (by first | rfl | (simp; done) | (simp [*]; done)), (by first | rfl | (simp; done) | (simp [*]; done)), H', ⟨by have := HK1.out; omega⟩, ⟨by (with_reducible repeat (first | apply Kd.R_alloc | apply Kd.R_drewN | apply Kd.R_drew)); exact HO_17.out⟩, ⟨by (with_reducible repeat (first | refine kN ?_ _ | refine kD ?_ | refine kA ?_ _)); exact BK165.out⟩, ⟨by repeat (first | (with_reducible first | exact HB.out | apply bA | apply bN | apply bD | refine bS ?_ GE165.out) | exact HB.out)⟩⟩
          ·
           rw [if_neg c20] at H
           exact absurd H (by simp)
         ·
          rw [if_neg c19] at H
          exact absurd H (by simp)
        ·
         rw [if_neg c18] at H
         exact absurd H (by simp)
       ·
        rw [if_neg c17] at H
        have c17b0 : decide (0 < x19_1) = false := decide_eq_false c17
        clear c17
        by_cases c21 : 1 + (rdOf ByteArray.empty t168 x19_1).size ≤ 9223372036854775807
        ·
         rw [if_pos c21] at H
         have c21b0 := eq_true c21
         have c21b1 : decide (1 + (rdOf ByteArray.empty t168 x19_1).size ≤ 9223372036854775807) = true := decide_eq_true c21
         try have c21b2 : (9223372036854775807 < 1 + (rdOf ByteArray.empty t168 x19_1).size) = False := eq_false (Nat.not_lt.2 c21)
         by_cases c22 : x5_1.size + ((⟨#[32]⟩ : ByteArray) ++ (rdOf ByteArray.empty t168 x19_1)).size ≤ 9223372036854775807
         ·
          rw [if_pos c22] at H
          have c22b0 := eq_true c22
          have c22b1 : decide (x5_1.size + ((⟨#[32]⟩ : ByteArray) ++ (rdOf ByteArray.empty t168 x19_1)).size ≤ 9223372036854775807) = true := decide_eq_true c22
          try have c22b2 : (9223372036854775807 < x5_1.size + ((⟨#[32]⟩ : ByteArray) ++ (rdOf ByteArray.empty t168 x19_1)).size) = False := eq_false (Nat.not_lt.2 c22)
          have H' := mK H
          clear H
          have p171 : 0 ≤ (x19_1 : Int) := of_decide_eq_true (by first | (with_reducible assumption) | assumption)
          have q171 : x19_1 < (t168.length : Int) := of_decide_eq_true (by first | (with_reducible assumption) | assumption)
          obtain ⟨ad171, e171, hx171_0⟩ := Kd.at_string (Kd.R_reads' HO_17.out).2.2 x19_1 p171 q171
          cases e171
          replace p171 := eq_true p171
          replace q171 := eq_true q171
          go_wp2
          go_roundg k1
          case measure => have := HK1.out; omega
          case rel => exact ⟨(x5_1 ++ ((⟨#[32]⟩ : ByteArray) ++ (rdOf ByteArray.empty t168 x19_1))), (wrap64 (x19_1 + 1)), (by first | rfl | (simp; done) | (simp [*]; done)), (by first | rfl | (simp; done) | (simp [*]; done)), H', ⟨by have := HK1.out; omega⟩, ⟨by (with_reducible repeat (first | apply Kd.R_alloc | apply Kd.R_drewN | apply Kd.R_drew)); exact HO_17.out⟩, ⟨by (with_reducible repeat (first | refine kN ?_ _ | refine kD ?_ | refine kA ?_ _)); exact BK165.out⟩, ⟨by repeat (first | (with_reducible first | exact HB.out | apply bA | apply bN | apply bD | refine bS ?_ GE165.out) | exact HB.out)⟩⟩
         ·
          rw [if_neg c22] at H
          exact absurd H (by simp)
        ·
         rw [if_neg c21] at H
         exact absurd H (by simp)
      ·
       rw [if_neg c16] at H
       exact absurd H (by simp)
     ·
      rw [if_neg c15] at H
      exact absurd H (by simp)
    ·
     rw [if_neg c14] at H
     have c14b0 : decide (x19_1 < (t168.length : Int)) = false := decide_eq_false c14
     clear c14
     simp only [Option.some.injEq, Prod.mk.injEq] at H
     obtain ⟨rfl, rfl⟩ := H
     go_wp2
     go_ret2
     exact ⟨by first | rfl | (simp [errW_none, errW_some] <;> rfl) | (simp [*, errW_none, errW_some] <;> rfl), by repeat (first | (with_reducible first | exact HB.out | apply bA | apply bN | apply bD | refine bS ?_ GE165.out) | exact HB.out)⟩
 ·
  rw [if_neg c3] at H
  have c3b0 : (t166 == 0) = false := bQ c3
  have c3b1 : (t166 != 0) = true := bne_iff_ne.mpr c3
  simp only [Option.some.injEq, Prod.mk.injEq] at H
  obtain ⟨rfl, rfl⟩ := H
  go_enter Try.func21, Try.ntmps21
  go_wp2_with (first | ((with_reducible refine gate_dst (N := 1) rfl ?_); refine box_event ?hg (N := 1) ?hd (cs := #[.int .i64 a0_0, .int .i64 a0_1, .int .i64 a0_2, .int .i64 a0_3, .int .i64 a0_4]) (t := 24) ?hr ?_; (case hd => rfl); (case hg => rfl); (case hr => first | (go_simp; done) | (go_simp; rfl)); intro gb165 hg w23 hbox hb; have n0_ := mK (bP (by repeat (first | (with_reducible first | exact HB.out | apply bA | apply bN | apply bD) | exact HB.out)) hb); have n1_ := mK (hbox); have n2_ := mK ((by rw [hg]; exact (bZ (by repeat (first | (with_reducible first | exact HB.out | apply bA | apply bN | apply bD) | exact HB.out))) : w.heap.size ≤ gb165)); have n3_ := mK ((by rw [hg]; exact (bZ (by repeat (first | (with_reducible first | exact HB.out | apply bA | apply bN | apply bD) | exact HB.out))) : w.heap.size ≤ gb165)); clear HB; have HB := n0_; have BK165 := n1_; have GW165 := n2_; have GE165 := n3_; clear n0_ n1_ n2_ n3_; clear hb hbox hg; obtain ⟨hcz24_0, hcz24_1, hcz24_2, hcz24_3, hcz24_4, hfz24_0, hfz24_1, hfz24_2, hfz24_3, hfz24_4⟩ := cf5 BK165.out) | ((with_reducible refine gate_callee (f := 39) rfl ?_); refine goesL_ (some 9) rfl rfl Try.func39 (by kernel_rfl) rfl #[.agg #[.int .i64 a0_0, .int .i64 a0_1, .int .i64 a0_2, .int .i64 a0_3, .int .i64 a0_4]] rfl (by (try simp only [List.map_toArray, List.map_cons, List.map_nil]); first | done | rfl) ?_; (with_reducible refine (instr_Check.calls k a0_0 a0_1 a0_2 a0_3 a0_4 t166 _ A2.out).mono ?_); rintro e w25 ⟨rfl, hb⟩; refine ⟨_, rfl, ?_⟩; have n0_ := mK (kB (g := gb165) (o := o5 a0_0 a0_1 a0_2 a0_3 a0_4 24) (by (with_reducible repeat (first | refine kN ?_ _ | refine kD ?_ | refine kA ?_ _)); exact BK165.out) hb); have n1_ := mK (bP (by repeat (first | (with_reducible first | exact HB.out | apply bA | apply bN | apply bD | refine bS ?_ GE165.out) | exact HB.out)) hb); clear BK165; clear HB; have BK165 := n0_; have HB := n1_; clear n0_ n1_; (try clear hb)))
  go_ret2
  exact ⟨by first | rfl | (simp [errW_none, errW_some] <;> rfl) | (simp [*, errW_none, errW_some] <;> rfl), by repeat (first | (with_reducible first | exact HB.out | apply bA | apply bN | apply bD | refine bS ?_ GE165.out) | exact HB.out)⟩

end Go.Proofs.Ytfagpgpeiomnpaa.P

namespace Go.Proofs.Ytfagpgpeiomnpaa.P
open Go.RowKit Go.Proofs.YtfagpgpeiomnpaaW.PrintWords Go.Proofs.YtfagpgpeiomnpaaW.PrintLast Go.Proofs.YtfagpgpeiomnpaaW.PrintMore
attribute [local go_sem] max2_int min2_int max_two min_two max_three min_three max_four min_four   -- for this text's walks alone
set_option linter.unusedVariables false
set_option linter.unusedSimpArgs false

/-! ### listing_Line: function 9 -/
def listing_Line.f (k : Nat) (a0 : Int) (a1 : Int) : Option (ByteArray) := (word_Hex.f a0).bind fun t172 => (if t172.size + 1 ≤ 9223372036854775807 then ((word_Hex.f a1).bind fun t173 => (if (t172 ++ (⟨#[32]⟩ : ByteArray)).size + t173.size ≤ 9223372036854775807 then (if ((t172 ++ (⟨#[32]⟩ : ByteArray)) ++ t173).size + 1 ≤ 9223372036854775807 then ((instr_Decode.f k a1).bind fun bt174 => (if bt174.2.2.2.2.2 = 0 then ((instr_Text.f k bt174.1 bt174.2.1 bt174.2.2.1 bt174.2.2.2.1 bt174.2.2.2.2.1).bind fun bt181 => (if (((t172 ++ (⟨#[32]⟩ : ByteArray)) ++ t173) ++ (⟨#[32]⟩ : ByteArray)).size + bt181.1.size ≤ 9223372036854775807 then ((listing_Target.f a0 bt174.1 bt174.2.1 bt174.2.2.1 bt174.2.2.2.1 bt174.2.2.2.2.1).bind fun bt183 => (if bt183.2 = true then ((word_Hex.f bt183.1).bind fun t185 => (if 4 + t185.size ≤ 9223372036854775807 then (if ((((t172 ++ (⟨#[32]⟩ : ByteArray)) ++ t173) ++ (⟨#[32]⟩ : ByteArray)) ++ bt181.1).size + ((⟨#[32, 45, 62, 32]⟩ : ByteArray) ++ t185).size ≤ 9223372036854775807 then (some (((((t172 ++ (⟨#[32]⟩ : ByteArray)) ++ t173) ++ (⟨#[32]⟩ : ByteArray)) ++ bt181.1) ++ ((⟨#[32, 45, 62, 32]⟩ : ByteArray) ++ t185))) else (none)) else (none))) else (some ((((t172 ++ (⟨#[32]⟩ : ByteArray)) ++ t173) ++ (⟨#[32]⟩ : ByteArray)) ++ bt181.1)))) else (none))) else (if (((t172 ++ (⟨#[32]⟩ : ByteArray)) ++ t173) ++ (⟨#[32]⟩ : ByteArray)).size + 1 ≤ 9223372036854775807 then (some ((((t172 ++ (⟨#[32]⟩ : ByteArray)) ++ t173) ++ (⟨#[32]⟩ : ByteArray)) ++ (⟨#[63]⟩ : ByteArray))) else (none)))) else (none)) else (none))) else (none))
theorem listing_Line.mono : ∀ a0 a1 k, LeO (listing_Line.f k a0 a1) (listing_Line.f (k + 1) a0 a1) := by
 intro a0 a1 k
 unfold listing_Line.f
 repeat' first
  | (with_reducible exact instr_Decode.mono _ _)
  | (with_reducible exact instr_Text.mono _ _ _ _ _ _)
  | (with_reducible exact LeO.refl _)
  | (with_reducible exact LeO.none _)
  | (with_reducible refine LeO.ite ?_ ?_)
  | (with_reducible refine LeO.bind ?_ (fun _ => ?_))
  | exact LeO.none _
  | refine LeO.ite ?_ ?_
  | refine LeO.bind ?_ (fun _ => ?_)
set_option maxHeartbeats 8000000 in
set_option maxRecDepth 100000 in
theorem listing_Line.calls (k : Nat) (a0 : Int) (a1 : Int) (r : ByteArray) (w : World) (h : listing_Line.f k a0 a1 = some r) :
 Calls Try.prog 9 #[.int .u32 a0, .int .u32 a1] w fun e w' => e = .returned (.string r) ∧ Below w.heap.size w w' := by
 have hu24 := Try.underlying24
 have HB := mK (Below.refl w.heap.size w)
 have H : ((word_Hex.f a0).bind fun t172 => (if t172.size + 1 ≤ 9223372036854775807 then ((word_Hex.f a1).bind fun t173 => (if (t172 ++ (⟨#[32]⟩ : ByteArray)).size + t173.size ≤ 9223372036854775807 then (if ((t172 ++ (⟨#[32]⟩ : ByteArray)) ++ t173).size + 1 ≤ 9223372036854775807 then ((instr_Decode.f k a1).bind fun bt174 => (if bt174.2.2.2.2.2 = 0 then ((instr_Text.f k bt174.1 bt174.2.1 bt174.2.2.1 bt174.2.2.2.1 bt174.2.2.2.2.1).bind fun bt181 => (if (((t172 ++ (⟨#[32]⟩ : ByteArray)) ++ t173) ++ (⟨#[32]⟩ : ByteArray)).size + bt181.1.size ≤ 9223372036854775807 then ((listing_Target.f a0 bt174.1 bt174.2.1 bt174.2.2.1 bt174.2.2.2.1 bt174.2.2.2.2.1).bind fun bt183 => (if bt183.2 = true then ((word_Hex.f bt183.1).bind fun t185 => (if 4 + t185.size ≤ 9223372036854775807 then (if ((((t172 ++ (⟨#[32]⟩ : ByteArray)) ++ t173) ++ (⟨#[32]⟩ : ByteArray)) ++ bt181.1).size + ((⟨#[32, 45, 62, 32]⟩ : ByteArray) ++ t185).size ≤ 9223372036854775807 then (some (((((t172 ++ (⟨#[32]⟩ : ByteArray)) ++ t173) ++ (⟨#[32]⟩ : ByteArray)) ++ bt181.1) ++ ((⟨#[32, 45, 62, 32]⟩ : ByteArray) ++ t185))) else (none)) else (none))) else (some ((((t172 ++ (⟨#[32]⟩ : ByteArray)) ++ t173) ++ (⟨#[32]⟩ : ByteArray)) ++ bt181.1)))) else (none))) else (if (((t172 ++ (⟨#[32]⟩ : ByteArray)) ++ t173) ++ (⟨#[32]⟩ : ByteArray)).size + 1 ≤ 9223372036854775807 then (some ((((t172 ++ (⟨#[32]⟩ : ByteArray)) ++ t173) ++ (⟨#[32]⟩ : ByteArray)) ++ (⟨#[63]⟩ : ByteArray))) else (none)))) else (none)) else (none))) else (none))) = some r := h
 clear h
 replace H := oB H
 obtain ⟨t172, A30, H⟩ := H
 replace H : (if t172.size + 1 ≤ 9223372036854775807 then ((word_Hex.f a1).bind fun t173 => (if (t172 ++ (⟨#[32]⟩ : ByteArray)).size + t173.size ≤ 9223372036854775807 then (if ((t172 ++ (⟨#[32]⟩ : ByteArray)) ++ t173).size + 1 ≤ 9223372036854775807 then ((instr_Decode.f k a1).bind fun bt174 => (if bt174.2.2.2.2.2 = 0 then ((instr_Text.f k bt174.1 bt174.2.1 bt174.2.2.1 bt174.2.2.2.1 bt174.2.2.2.2.1).bind fun bt181 => (if (((t172 ++ (⟨#[32]⟩ : ByteArray)) ++ t173) ++ (⟨#[32]⟩ : ByteArray)).size + bt181.1.size ≤ 9223372036854775807 then ((listing_Target.f a0 bt174.1 bt174.2.1 bt174.2.2.1 bt174.2.2.2.1 bt174.2.2.2.2.1).bind fun bt183 => (if bt183.2 = true then ((word_Hex.f bt183.1).bind fun t185 => (if 4 + t185.size ≤ 9223372036854775807 then (if ((((t172 ++ (⟨#[32]⟩ : ByteArray)) ++ t173) ++ (⟨#[32]⟩ : ByteArray)) ++ bt181.1).size + ((⟨#[32, 45, 62, 32]⟩ : ByteArray) ++ t185).size ≤ 9223372036854775807 then (some (((((t172 ++ (⟨#[32]⟩ : ByteArray)) ++ t173) ++ (⟨#[32]⟩ : ByteArray)) ++ bt181.1) ++ ((⟨#[32, 45, 62, 32]⟩ : ByteArray) ++ t185))) else (none)) else (none))) else (some ((((t172 ++ (⟨#[32]⟩ : ByteArray)) ++ t173) ++ (⟨#[32]⟩ : ByteArray)) ++ bt181.1)))) else (none))) else (if (((t172 ++ (⟨#[32]⟩ : ByteArray)) ++ t173) ++ (⟨#[32]⟩ : ByteArray)).size + 1 ≤ 9223372036854775807 then (some ((((t172 ++ (⟨#[32]⟩ : ByteArray)) ++ t173) ++ (⟨#[32]⟩ : ByteArray)) ++ (⟨#[63]⟩ : ByteArray))) else (none)))) else (none)) else (none))) else (none)) = some r := H
 have A3 := mK A30
 clear A30
 by_cases c4 : t172.size + 1 ≤ 9223372036854775807
 ·
  rw [if_pos c4] at H
  have c4b0 := eq_true c4
  have c4b1 : decide (t172.size + 1 ≤ 9223372036854775807) = true := decide_eq_true c4
  try have c4b2 : (9223372036854775807 < t172.size + 1) = False := eq_false (Nat.not_lt.2 c4)
  try (have c4s2 := c4b2; simp only [ByteArray.size_append, Go.Proofs.Ytfagpgpeiomnpaa.C.ba_lit, List.size_toArray, List.length_cons, List.length_nil, Nat.zero_add, Nat.reduceAdd] at c4s2)
  replace H := oB H
  obtain ⟨t173, A50, H⟩ := H
  replace H : (if (t172 ++ (⟨#[32]⟩ : ByteArray)).size + t173.size ≤ 9223372036854775807 then (if ((t172 ++ (⟨#[32]⟩ : ByteArray)) ++ t173).size + 1 ≤ 9223372036854775807 then ((instr_Decode.f k a1).bind fun bt174 => (if bt174.2.2.2.2.2 = 0 then ((instr_Text.f k bt174.1 bt174.2.1 bt174.2.2.1 bt174.2.2.2.1 bt174.2.2.2.2.1).bind fun bt181 => (if (((t172 ++ (⟨#[32]⟩ : ByteArray)) ++ t173) ++ (⟨#[32]⟩ : ByteArray)).size + bt181.1.size ≤ 9223372036854775807 then ((listing_Target.f a0 bt174.1 bt174.2.1 bt174.2.2.1 bt174.2.2.2.1 bt174.2.2.2.2.1).bind fun bt183 => (if bt183.2 = true then ((word_Hex.f bt183.1).bind fun t185 => (if 4 + t185.size ≤ 9223372036854775807 then (if ((((t172 ++ (⟨#[32]⟩ : ByteArray)) ++ t173) ++ (⟨#[32]⟩ : ByteArray)) ++ bt181.1).size + ((⟨#[32, 45, 62, 32]⟩ : ByteArray) ++ t185).size ≤ 9223372036854775807 then (some (((((t172 ++ (⟨#[32]⟩ : ByteArray)) ++ t173) ++ (⟨#[32]⟩ : ByteArray)) ++ bt181.1) ++ ((⟨#[32, 45, 62, 32]⟩ : ByteArray) ++ t185))) else (none)) else (none))) else (some ((((t172 ++ (⟨#[32]⟩ : ByteArray)) ++ t173) ++ (⟨#[32]⟩ : ByteArray)) ++ bt181.1)))) else (none))) else (if (((t172 ++ (⟨#[32]⟩ : ByteArray)) ++ t173) ++ (⟨#[32]⟩ : ByteArray)).size + 1 ≤ 9223372036854775807 then (some ((((t172 ++ (⟨#[32]⟩ : ByteArray)) ++ t173) ++ (⟨#[32]⟩ : ByteArray)) ++ (⟨#[63]⟩ : ByteArray))) else (none)))) else (none)) else (none)) = some r := H
  have A5 := mK A50
  clear A50
  by_cases c6 : (t172 ++ (⟨#[32]⟩ : ByteArray)).size + t173.size ≤ 9223372036854775807
  ·
   rw [if_pos c6] at H
   have c6b0 := eq_true c6
   have c6b1 : decide ((t172 ++ (⟨#[32]⟩ : ByteArray)).size + t173.size ≤ 9223372036854775807) = true := decide_eq_true c6
   try have c6b2 : (9223372036854775807 < (t172 ++ (⟨#[32]⟩ : ByteArray)).size + t173.size) = False := eq_false (Nat.not_lt.2 c6)
   try (have c6s2 := c6b2; simp only [ByteArray.size_append, Go.Proofs.Ytfagpgpeiomnpaa.C.ba_lit, List.size_toArray, List.length_cons, List.length_nil, Nat.zero_add, Nat.reduceAdd] at c6s2)
   by_cases c7 : ((t172 ++ (⟨#[32]⟩ : ByteArray)) ++ t173).size + 1 ≤ 9223372036854775807
   ·
    rw [if_pos c7] at H
    have c7b0 := eq_true c7
    have c7b1 : decide (((t172 ++ (⟨#[32]⟩ : ByteArray)) ++ t173).size + 1 ≤ 9223372036854775807) = true := decide_eq_true c7
    try have c7b2 : (9223372036854775807 < ((t172 ++ (⟨#[32]⟩ : ByteArray)) ++ t173).size + 1) = False := eq_false (Nat.not_lt.2 c7)
    try (have c7s2 := c7b2; simp only [ByteArray.size_append, Go.Proofs.Ytfagpgpeiomnpaa.C.ba_lit, List.size_toArray, List.length_cons, List.length_nil, Nat.zero_add, Nat.reduceAdd] at c7s2)
    replace H := oB H
    obtain ⟨⟨t174, t175, t176, t177, t178, t179⟩, A80, H⟩ := H
    replace H : (if t179 = 0 then ((instr_Text.f k t174 t175 t176 t177 t178).bind fun bt181 => (if (((t172 ++ (⟨#[32]⟩ : ByteArray)) ++ t173) ++ (⟨#[32]⟩ : ByteArray)).size + bt181.1.size ≤ 9223372036854775807 then ((listing_Target.f a0 t174 t175 t176 t177 t178).bind fun bt183 => (if bt183.2 = true then ((word_Hex.f bt183.1).bind fun t185 => (if 4 + t185.size ≤ 9223372036854775807 then (if ((((t172 ++ (⟨#[32]⟩ : ByteArray)) ++ t173) ++ (⟨#[32]⟩ : ByteArray)) ++ bt181.1).size + ((⟨#[32, 45, 62, 32]⟩ : ByteArray) ++ t185).size ≤ 9223372036854775807 then (some (((((t172 ++ (⟨#[32]⟩ : ByteArray)) ++ t173) ++ (⟨#[32]⟩ : ByteArray)) ++ bt181.1) ++ ((⟨#[32, 45, 62, 32]⟩ : ByteArray) ++ t185))) else (none)) else (none))) else (some ((((t172 ++ (⟨#[32]⟩ : ByteArray)) ++ t173) ++ (⟨#[32]⟩ : ByteArray)) ++ bt181.1)))) else (none))) else (if (((t172 ++ (⟨#[32]⟩ : ByteArray)) ++ t173) ++ (⟨#[32]⟩ : ByteArray)).size + 1 ≤ 9223372036854775807 then (some ((((t172 ++ (⟨#[32]⟩ : ByteArray)) ++ t173) ++ (⟨#[32]⟩ : ByteArray)) ++ (⟨#[63]⟩ : ByteArray))) else (none))) = some r := H
    have A8 := mK A80
    clear A80
    by_cases c9 : t179 = 0
    ·
     rw [if_pos c9] at H
     have c9b0 : (t179 == 0) = true := beq_iff_eq.mpr c9
     have c9b1 : (t179 != 0) = false := bR c9
     clear c9
     replace H := oB H
     obtain ⟨⟨t181, t182⟩, A100, H⟩ := H
     replace H : (if (((t172 ++ (⟨#[32]⟩ : ByteArray)) ++ t173) ++ (⟨#[32]⟩ : ByteArray)).size + t181.size ≤ 9223372036854775807 then ((listing_Target.f a0 t174 t175 t176 t177 t178).bind fun bt183 => (if bt183.2 = true then ((word_Hex.f bt183.1).bind fun t185 => (if 4 + t185.size ≤ 9223372036854775807 then (if ((((t172 ++ (⟨#[32]⟩ : ByteArray)) ++ t173) ++ (⟨#[32]⟩ : ByteArray)) ++ t181).size + ((⟨#[32, 45, 62, 32]⟩ : ByteArray) ++ t185).size ≤ 9223372036854775807 then (some (((((t172 ++ (⟨#[32]⟩ : ByteArray)) ++ t173) ++ (⟨#[32]⟩ : ByteArray)) ++ t181) ++ ((⟨#[32, 45, 62, 32]⟩ : ByteArray) ++ t185))) else (none)) else (none))) else (some ((((t172 ++ (⟨#[32]⟩ : ByteArray)) ++ t173) ++ (⟨#[32]⟩ : ByteArray)) ++ t181)))) else (none)) = some r := H
     have A10 := mK A100
     clear A100
     by_cases c11 : (((t172 ++ (⟨#[32]⟩ : ByteArray)) ++ t173) ++ (⟨#[32]⟩ : ByteArray)).size + t181.size ≤ 9223372036854775807
     ·
      rw [if_pos c11] at H
      have c11b0 := eq_true c11
      have c11b1 : decide ((((t172 ++ (⟨#[32]⟩ : ByteArray)) ++ t173) ++ (⟨#[32]⟩ : ByteArray)).size + t181.size ≤ 9223372036854775807) = true := decide_eq_true c11
      try have c11b2 : (9223372036854775807 < (((t172 ++ (⟨#[32]⟩ : ByteArray)) ++ t173) ++ (⟨#[32]⟩ : ByteArray)).size + t181.size) = False := eq_false (Nat.not_lt.2 c11)
      try (have c11s2 := c11b2; simp only [ByteArray.size_append, Go.Proofs.Ytfagpgpeiomnpaa.C.ba_lit, List.size_toArray, List.length_cons, List.length_nil, Nat.zero_add, Nat.reduceAdd] at c11s2)
      replace H := oB H
      obtain ⟨⟨t183, t184⟩, A120, H⟩ := H
      replace H : (if t184 = true then ((word_Hex.f t183).bind fun t185 => (if 4 + t185.size ≤ 9223372036854775807 then (if ((((t172 ++ (⟨#[32]⟩ : ByteArray)) ++ t173) ++ (⟨#[32]⟩ : ByteArray)) ++ t181).size + ((⟨#[32, 45, 62, 32]⟩ : ByteArray) ++ t185).size ≤ 9223372036854775807 then (some (((((t172 ++ (⟨#[32]⟩ : ByteArray)) ++ t173) ++ (⟨#[32]⟩ : ByteArray)) ++ t181) ++ ((⟨#[32, 45, 62, 32]⟩ : ByteArray) ++ t185))) else (none)) else (none))) else (some ((((t172 ++ (⟨#[32]⟩ : ByteArray)) ++ t173) ++ (⟨#[32]⟩ : ByteArray)) ++ t181))) = some r := H
      have A12 := mK A120
      clear A120
      by_cases c13 : t184 = true
      ·
       subst c13
       have H1 : ((word_Hex.f t183).bind fun t185 => (if 4 + t185.size ≤ 9223372036854775807 then (if ((((t172 ++ (⟨#[32]⟩ : ByteArray)) ++ t173) ++ (⟨#[32]⟩ : ByteArray)) ++ t181).size + ((⟨#[32, 45, 62, 32]⟩ : ByteArray) ++ t185).size ≤ 9223372036854775807 then (some (((((t172 ++ (⟨#[32]⟩ : ByteArray)) ++ t173) ++ (⟨#[32]⟩ : ByteArray)) ++ t181) ++ ((⟨#[32, 45, 62, 32]⟩ : ByteArray) ++ t185))) else (none)) else (none))) = some r := by rw [if_pos rfl] at H; exact H
       clear H
       have H := H1
       clear H1
       replace H := oB H
       obtain ⟨t185, A140, H⟩ := H
       replace H : (if 4 + t185.size ≤ 9223372036854775807 then (if ((((t172 ++ (⟨#[32]⟩ : ByteArray)) ++ t173) ++ (⟨#[32]⟩ : ByteArray)) ++ t181).size + ((⟨#[32, 45, 62, 32]⟩ : ByteArray) ++ t185).size ≤ 9223372036854775807 then (some (((((t172 ++ (⟨#[32]⟩ : ByteArray)) ++ t173) ++ (⟨#[32]⟩ : ByteArray)) ++ t181) ++ ((⟨#[32, 45, 62, 32]⟩ : ByteArray) ++ t185))) else (none)) else (none)) = some r := H
       have A14 := mK A140
       clear A140
       by_cases c15 : 4 + t185.size ≤ 9223372036854775807
       ·
        rw [if_pos c15] at H
        have c15b0 := eq_true c15
        have c15b1 : decide (4 + t185.size ≤ 9223372036854775807) = true := decide_eq_true c15
        try have c15b2 : (9223372036854775807 < 4 + t185.size) = False := eq_false (Nat.not_lt.2 c15)
        try (have c15s2 := c15b2; simp only [ByteArray.size_append, Go.Proofs.Ytfagpgpeiomnpaa.C.ba_lit, List.size_toArray, List.length_cons, List.length_nil, Nat.zero_add, Nat.reduceAdd] at c15s2)
        by_cases c16 : ((((t172 ++ (⟨#[32]⟩ : ByteArray)) ++ t173) ++ (⟨#[32]⟩ : ByteArray)) ++ t181).size + ((⟨#[32, 45, 62, 32]⟩ : ByteArray) ++ t185).size ≤ 9223372036854775807
        ·
         rw [if_pos c16] at H
         have c16b0 := eq_true c16
         have c16b1 : decide (((((t172 ++ (⟨#[32]⟩ : ByteArray)) ++ t173) ++ (⟨#[32]⟩ : ByteArray)) ++ t181).size + ((⟨#[32, 45, 62, 32]⟩ : ByteArray) ++ t185).size ≤ 9223372036854775807) = true := decide_eq_true c16
         try have c16b2 : (9223372036854775807 < ((((t172 ++ (⟨#[32]⟩ : ByteArray)) ++ t173) ++ (⟨#[32]⟩ : ByteArray)) ++ t181).size + ((⟨#[32, 45, 62, 32]⟩ : ByteArray) ++ t185).size) = False := eq_false (Nat.not_lt.2 c16)
         try (have c16s2 := c16b2; simp only [ByteArray.size_append, Go.Proofs.Ytfagpgpeiomnpaa.C.ba_lit, List.size_toArray, List.length_cons, List.length_nil, Nat.zero_add, Nat.reduceAdd] at c16s2)
         obtain rfl := Option.some.inj H
         go_enter Try.func9, Try.ntmps9
         go_wp2_with (first | ((with_reducible refine gate_callee (f := 19) rfl ?_); refine goesL_ (some 13) rfl rfl Try.func19 (by kernel_rfl) rfl #[.int .u32 a0] rfl (by (try simp only [List.map_toArray, List.map_cons, List.map_nil]); first | done | rfl) ?_; (with_reducible refine (word_Hex.calls a0 t172 _ A3.out).mono ?_); rintro e w17 ⟨rfl, hb⟩; refine ⟨_, rfl, ?_⟩; have n0_ := mK (bP (by repeat (first | (with_reducible first | exact HB.out | apply bA | apply bN | apply bD) | exact HB.out)) hb); clear HB; have HB := n0_; clear n0_; (try clear hb)) | ((with_reducible refine gate_callee (f := 19) rfl ?_); refine goesL_ (some 16) rfl rfl Try.func19 (by kernel_rfl) rfl #[.int .u32 a1] rfl (by (try simp only [List.map_toArray, List.map_cons, List.map_nil]); first | done | rfl) ?_; (with_reducible refine (word_Hex.calls a1 t173 _ A5.out).mono ?_); rintro e w18 ⟨rfl, hb⟩; refine ⟨_, rfl, ?_⟩; have n0_ := mK (bP (by repeat (first | (with_reducible first | exact HB.out | apply bA | apply bN | apply bD) | exact HB.out)) hb); clear HB; have HB := n0_; clear n0_; (try clear hb)) | ((with_reducible refine gate_callee (f := 20) rfl ?_); refine goesL_ (some 21) rfl rfl Try.func20 (by kernel_rfl) rfl #[.int .u32 a1] rfl (by (try simp only [List.map_toArray, List.map_cons, List.map_nil]); first | done | rfl) ?_; (with_reducible refine (instr_Decode.calls k a1 t174 t175 t176 t177 t178 t179 _ A8.out).mono ?_); rintro e w19 ⟨rfl, hb⟩; refine ⟨_, rfl, ?_⟩; have n0_ := mK (bP (by repeat (first | (with_reducible first | exact HB.out | apply bA | apply bN | apply bD) | exact HB.out)) hb); clear HB; have HB := n0_; clear n0_; (try clear hb)) | ((with_reducible refine gate_dst (N := 6) rfl ?_); refine box_event ?hg (N := 6) ?hd (cs := #[.int .i64 0, .int .i64 0, .int .i64 0, .int .i64 0, .int .i64 0]) (t := 24) ?hr ?_; (case hd => rfl); (case hg => rfl); (case hr => first | (go_simp; done) | (go_simp; rfl)); intro gb180 hg w20 hbox hb; have n0_ := mK (bP (by repeat (first | (with_reducible first | exact HB.out | apply bA | apply bN | apply bD) | exact HB.out)) hb); have n1_ := mK (hbox); have n2_ := mK ((by rw [hg]; exact (bZ (by repeat (first | (with_reducible first | exact HB.out | apply bA | apply bN | apply bD) | exact HB.out))) : w.heap.size ≤ gb180)); have n3_ := mK ((by rw [hg]; exact (bZ (by repeat (first | (with_reducible first | exact HB.out | apply bA | apply bN | apply bD) | exact HB.out))) : w.heap.size ≤ gb180)); clear HB; have HB := n0_; have BK180 := n1_; have GW180 := n2_; have GE180 := n3_; clear n0_ n1_ n2_ n3_; clear hb hbox hg; obtain ⟨hcz21_0, hcz21_1, hcz21_2, hcz21_3, hcz21_4, hfz21_0, hfz21_1, hfz21_2, hfz21_3, hfz21_4⟩ := cf5 BK180.out) | ((with_reducible refine gate_callee (f := 21) rfl ?_); refine goesL_ (some 30) rfl rfl Try.func21 (by kernel_rfl) rfl #[.agg #[.int .i64 t174, .int .i64 t175, .int .i64 t176, .int .i64 t177, .int .i64 t178]] rfl (by (try simp only [List.map_toArray, List.map_cons, List.map_nil]); first | done | rfl) ?_; (with_reducible refine (instr_Text.calls k t174 t175 t176 t177 t178 t181 t182 _ A10.out).mono ?_); rintro e w22 ⟨rfl, hb⟩; refine ⟨_, rfl, ?_⟩; have n0_ := mK (kB (g := gb180) (o := o5 t174 t175 t176 t177 t178 24) (by (with_reducible repeat (first | refine kN ?_ _ | refine kD ?_ | refine kA ?_ _)); refine kP (cs := #[.int .i64 t174, .int .i64 t175, .int .i64 t176, .int .i64 t177, .int .i64 0]) ?_ 4 _ rfl; (with_reducible repeat (first | refine kN ?_ _ | refine kD ?_ | refine kA ?_ _)); refine kP (cs := #[.int .i64 t174, .int .i64 t175, .int .i64 t176, .int .i64 0, .int .i64 0]) ?_ 3 _ rfl; (with_reducible repeat (first | refine kN ?_ _ | refine kD ?_ | refine kA ?_ _)); refine kP (cs := #[.int .i64 t174, .int .i64 t175, .int .i64 0, .int .i64 0, .int .i64 0]) ?_ 2 _ rfl; (with_reducible repeat (first | refine kN ?_ _ | refine kD ?_ | refine kA ?_ _)); refine kP (cs := #[.int .i64 t174, .int .i64 0, .int .i64 0, .int .i64 0, .int .i64 0]) ?_ 1 _ rfl; (with_reducible repeat (first | refine kN ?_ _ | refine kD ?_ | refine kA ?_ _)); refine kP (cs := #[.int .i64 0, .int .i64 0, .int .i64 0, .int .i64 0, .int .i64 0]) ?_ 0 _ rfl; (with_reducible repeat (first | refine kN ?_ _ | refine kD ?_ | refine kA ?_ _)); exact BK180.out) hb); have n1_ := mK (bP (by repeat (first | (with_reducible first | exact HB.out | apply bA | apply bN | apply bD | refine bS ?_ GE180.out) | exact HB.out)) hb); clear BK180; clear HB; have BK180 := n0_; have HB := n1_; clear n0_ n1_; (try clear hb); obtain ⟨hcz23_0, hcz23_1, hcz23_2, hcz23_3, hcz23_4, hfz23_0, hfz23_1, hfz23_2, hfz23_3, hfz23_4⟩ := cf5 BK180.out) | ((with_reducible refine gate_callee (f := 8) rfl ?_); refine goesL_ (some 39) rfl rfl Try.func8 (by kernel_rfl) rfl #[.int .u32 a0, .agg #[.int .i64 t174, .int .i64 t175, .int .i64 t176, .int .i64 t177, .int .i64 t178]] rfl (by (try simp only [List.map_toArray, List.map_cons, List.map_nil]); first | done | rfl) ?_; (with_reducible refine (listing_Target.calls a0 t174 t175 t176 t177 t178 t183 true _ A12.out).mono ?_); rintro e w24 ⟨rfl, hb⟩; refine ⟨_, rfl, ?_⟩; have n0_ := mK (kB (g := gb180) (o := o5 t174 t175 t176 t177 t178 24) (by (with_reducible repeat (first | refine kN ?_ _ | refine kD ?_ | refine kA ?_ _)); exact BK180.out) hb); have n1_ := mK (bP (by repeat (first | (with_reducible first | exact HB.out | apply bA | apply bN | apply bD | refine bS ?_ GE180.out) | exact HB.out)) hb); clear BK180; clear HB; have BK180 := n0_; have HB := n1_; clear n0_ n1_; (try clear hb)) | ((with_reducible refine gate_callee (f := 19) rfl ?_); refine goesL_ (some 45) rfl rfl Try.func19 (by kernel_rfl) rfl #[.int .u32 t183] rfl (by (try simp only [List.map_toArray, List.map_cons, List.map_nil]); first | done | rfl) ?_; (with_reducible refine (word_Hex.calls t183 t185 _ A14.out).mono ?_); rintro e w25 ⟨rfl, hb⟩; refine ⟨_, rfl, ?_⟩; have n0_ := mK (kB (g := gb180) (o := o5 t174 t175 t176 t177 t178 24) (by (with_reducible repeat (first | refine kN ?_ _ | refine kD ?_ | refine kA ?_ _)); exact BK180.out) hb); have n1_ := mK (bP (by repeat (first | (with_reducible first | exact HB.out | apply bA | apply bN | apply bD | refine bS ?_ GE180.out) | exact HB.out)) hb); clear BK180; clear HB; have BK180 := n0_; have HB := n1_; clear n0_ n1_; (try clear hb)))
         go_ret
         exact ⟨by first | rfl | (simp [errW_none, errW_some] <;> rfl) | (simp [*, errW_none, errW_some] <;> rfl), by repeat (first | (with_reducible first | exact HB.out | apply bA | apply bN | apply bD | refine bS ?_ GE180.out) | exact HB.out)⟩
        ·
         rw [if_neg c16] at H
         exact absurd H (by simp)
       ·
        rw [if_neg c15] at H
        exact absurd H (by simp)
      ·
       replace c13 := Bool.eq_false_iff.mpr c13
       subst c13
       have H1 : (some ((((t172 ++ (⟨#[32]⟩ : ByteArray)) ++ t173) ++ (⟨#[32]⟩ : ByteArray)) ++ t181)) = some r := by rw [if_neg (show ¬ (false = true) by decide)] at H; exact H
       clear H
       have H := H1
       clear H1
       obtain rfl := Option.some.inj H
       go_enter Try.func9, Try.ntmps9
       go_wp2_with (first | ((with_reducible refine gate_callee (f := 19) rfl ?_); refine goesL_ (some 13) rfl rfl Try.func19 (by kernel_rfl) rfl #[.int .u32 a0] rfl (by (try simp only [List.map_toArray, List.map_cons, List.map_nil]); first | done | rfl) ?_; (with_reducible refine (word_Hex.calls a0 t172 _ A3.out).mono ?_); rintro e w26 ⟨rfl, hb⟩; refine ⟨_, rfl, ?_⟩; have n0_ := mK (bP (by repeat (first | (with_reducible first | exact HB.out | apply bA | apply bN | apply bD) | exact HB.out)) hb); clear HB; have HB := n0_; clear n0_; (try clear hb)) | ((with_reducible refine gate_callee (f := 19) rfl ?_); refine goesL_ (some 16) rfl rfl Try.func19 (by kernel_rfl) rfl #[.int .u32 a1] rfl (by (try simp only [List.map_toArray, List.map_cons, List.map_nil]); first | done | rfl) ?_; (with_reducible refine (word_Hex.calls a1 t173 _ A5.out).mono ?_); rintro e w27 ⟨rfl, hb⟩; refine ⟨_, rfl, ?_⟩; have n0_ := mK (bP (by repeat (first | (with_reducible first | exact HB.out | apply bA | apply bN | apply bD) | exact HB.out)) hb); clear HB; have HB := n0_; clear n0_; (try clear hb)) | ((with_reducible refine gate_callee (f := 20) rfl ?_); refine goesL_ (some 21) rfl rfl Try.func20 (by kernel_rfl) rfl #[.int .u32 a1] rfl (by (try simp only [List.map_toArray, List.map_cons, List.map_nil]); first | done | rfl) ?_; (with_reducible refine (instr_Decode.calls k a1 t174 t175 t176 t177 t178 t179 _ A8.out).mono ?_); rintro e w28 ⟨rfl, hb⟩; refine ⟨_, rfl, ?_⟩; have n0_ := mK (bP (by repeat (first | (with_reducible first | exact HB.out | apply bA | apply bN | apply bD) | exact HB.out)) hb); clear HB; have HB := n0_; clear n0_; (try clear hb)) | ((with_reducible refine gate_dst (N := 6) rfl ?_); refine box_event ?hg (N := 6) ?hd (cs := #[.int .i64 0, .int .i64 0, .int .i64 0, .int .i64 0, .int .i64 0]) (t := 24) ?hr ?_; (case hd => rfl); (case hg => rfl); (case hr => first | (go_simp; done) | (go_simp; rfl)); intro gb180 hg w29 hbox hb; have n0_ := mK (bP (by repeat (first | (with_reducible first | exact HB.out | apply bA | apply bN | apply bD) | exact HB.out)) hb); have n1_ := mK (hbox); have n2_ := mK ((by rw [hg]; exact (bZ (by repeat (first | (with_reducible first | exact HB.out | apply bA | apply bN | apply bD) | exact HB.out))) : w.heap.size ≤ gb180)); have n3_ := mK ((by rw [hg]; exact (bZ (by repeat (first | (with_reducible first | exact HB.out | apply bA | apply bN | apply bD) | exact HB.out))) : w.heap.size ≤ gb180)); clear HB; have HB := n0_; have BK180 := n1_; have GW180 := n2_; have GE180 := n3_; clear n0_ n1_ n2_ n3_; clear hb hbox hg; obtain ⟨hcz30_0, hcz30_1, hcz30_2, hcz30_3, hcz30_4, hfz30_0, hfz30_1, hfz30_2, hfz30_3, hfz30_4⟩ := cf5 BK180.out) | ((with_reducible refine gate_callee (f := 21) rfl ?_); refine goesL_ (some 30) rfl rfl Try.func21 (by kernel_rfl) rfl #[.agg #[.int .i64 t174, .int .i64 t175, .int .i64 t176, .int .i64 t177, .int .i64 t178]] rfl (by (try simp only [List.map_toArray, List.map_cons, List.map_nil]); first | done | rfl) ?_; (with_reducible refine (instr_Text.calls k t174 t175 t176 t177 t178 t181 t182 _ A10.out).mono ?_); rintro e w31 ⟨rfl, hb⟩; refine ⟨_, rfl, ?_⟩; have n0_ := mK (kB (g := gb180) (o := o5 t174 t175 t176 t177 t178 24) (by (with_reducible repeat (first | refine kN ?_ _ | refine kD ?_ | refine kA ?_ _)); refine kP (cs := #[.int .i64 t174, .int .i64 t175, .int .i64 t176, .int .i64 t177, .int .i64 0]) ?_ 4 _ rfl; (with_reducible repeat (first | refine kN ?_ _ | refine kD ?_ | refine kA ?_ _)); refine kP (cs := #[.int .i64 t174, .int .i64 t175, .int .i64 t176, .int .i64 0, .int .i64 0]) ?_ 3 _ rfl; (with_reducible repeat (first | refine kN ?_ _ | refine kD ?_ | refine kA ?_ _)); refine kP (cs := #[.int .i64 t174, .int .i64 t175, .int .i64 0, .int .i64 0, .int .i64 0]) ?_ 2 _ rfl; (with_reducible repeat (first | refine kN ?_ _ | refine kD ?_ | refine kA ?_ _)); refine kP (cs := #[.int .i64 t174, .int .i64 0, .int .i64 0, .int .i64 0, .int .i64 0]) ?_ 1 _ rfl; (with_reducible repeat (first | refine kN ?_ _ | refine kD ?_ | refine kA ?_ _)); refine kP (cs := #[.int .i64 0, .int .i64 0, .int .i64 0, .int .i64 0, .int .i64 0]) ?_ 0 _ rfl; (with_reducible repeat (first | refine kN ?_ _ | refine kD ?_ | refine kA ?_ _)); exact BK180.out) hb); have n1_ := mK (bP (by repeat (first | (with_reducible first | exact HB.out | apply bA | apply bN | apply bD | refine bS ?_ GE180.out) | exact HB.out)) hb); clear BK180; clear HB; have BK180 := n0_; have HB := n1_; clear n0_ n1_; (try clear hb); obtain ⟨hcz32_0, hcz32_1, hcz32_2, hcz32_3, hcz32_4, hfz32_0, hfz32_1, hfz32_2, hfz32_3, hfz32_4⟩ := cf5 BK180.out) | ((with_reducible refine gate_callee (f := 8) rfl ?_); refine goesL_ (some 39) rfl rfl Try.func8 (by kernel_rfl) rfl #[.int .u32 a0, .agg #[.int .i64 t174, .int .i64 t175, .int .i64 t176, .int .i64 t177, .int .i64 t178]] rfl (by (try simp only [List.map_toArray, List.map_cons, List.map_nil]); first | done | rfl) ?_; (with_reducible refine (listing_Target.calls a0 t174 t175 t176 t177 t178 t183 false _ A12.out).mono ?_); rintro e w33 ⟨rfl, hb⟩; refine ⟨_, rfl, ?_⟩; have n0_ := mK (kB (g := gb180) (o := o5 t174 t175 t176 t177 t178 24) (by (with_reducible repeat (first | refine kN ?_ _ | refine kD ?_ | refine kA ?_ _)); exact BK180.out) hb); have n1_ := mK (bP (by repeat (first | (with_reducible first | exact HB.out | apply bA | apply bN | apply bD | refine bS ?_ GE180.out) | exact HB.out)) hb); clear BK180; clear HB; have BK180 := n0_; have HB := n1_; clear n0_ n1_; (try clear hb)))
       go_ret
       exact ⟨by first | rfl | (simp [errW_none, errW_some] <;> rfl) | (simp [*, errW_none, errW_some] <;> rfl), by repeat (first | (with_reducible first | exact HB.out | apply bA | apply bN | apply bD | refine bS ?_ GE180.out) | exact HB.out)⟩
     ·
      rw [if_neg c11] at H
      exact absurd H (by simp)
    ·
     rw [if_neg c9] at H
     have c9b0 : (t179 == 0) = false := bQ c9
     have c9b1 : (t179 != 0) = true := bne_iff_ne.mpr c9
     by_cases c34 : (((t172 ++ (⟨#[32]⟩ : ByteArray)) ++ t173) ++ (⟨#[32]⟩ : ByteArray)).size + 1 ≤ 9223372036854775807
     ·
      rw [if_pos c34] at H
      have c34b0 := eq_true c34
      have c34b1 : decide ((((t172 ++ (⟨#[32]⟩ : ByteArray)) ++ t173) ++ (⟨#[32]⟩ : ByteArray)).size + 1 ≤ 9223372036854775807) = true := decide_eq_true c34
      try have c34b2 : (9223372036854775807 < (((t172 ++ (⟨#[32]⟩ : ByteArray)) ++ t173) ++ (⟨#[32]⟩ : ByteArray)).size + 1) = False := eq_false (Nat.not_lt.2 c34)
      try (have c34s2 := c34b2; simp only [ByteArray.size_append, Go.Proofs.Ytfagpgpeiomnpaa.C.ba_lit, List.size_toArray, List.length_cons, List.length_nil, Nat.zero_add, Nat.reduceAdd] at c34s2)
      obtain rfl := Option.some.inj H
      go_enter Try.func9, Try.ntmps9
      go_wp2_with (first | ((with_reducible refine gate_callee (f := 19) rfl ?_); refine goesL_ (some 13) rfl rfl Try.func19 (by kernel_rfl) rfl #[.int .u32 a0] rfl (by (try simp only [List.map_toArray, List.map_cons, List.map_nil]); first | done | rfl) ?_; (with_reducible refine (word_Hex.calls a0 t172 _ A3.out).mono ?_); rintro e w35 ⟨rfl, hb⟩; refine ⟨_, rfl, ?_⟩; have n0_ := mK (bP (by repeat (first | (with_reducible first | exact HB.out | apply bA | apply bN | apply bD) | exact HB.out)) hb); clear HB; have HB := n0_; clear n0_; (try clear hb)) | ((with_reducible refine gate_callee (f := 19) rfl ?_); refine goesL_ (some 16) rfl rfl Try.func19 (by kernel_rfl) rfl #[.int .u32 a1] rfl (by (try simp only [List.map_toArray, List.map_cons, List.map_nil]); first | done | rfl) ?_; (with_reducible refine (word_Hex.calls a1 t173 _ A5.out).mono ?_); rintro e w36 ⟨rfl, hb⟩; refine ⟨_, rfl, ?_⟩; have n0_ := mK (bP (by repeat (first | (with_reducible first | exact HB.out | apply bA | apply bN | apply bD) | exact HB.out)) hb); clear HB; have HB := n0_; clear n0_; (try clear hb)) | ((with_reducible refine gate_callee (f := 20) rfl ?_); refine goesL_ (some 21) rfl rfl Try.func20 (by kernel_rfl) rfl #[.int .u32 a1] rfl (by (try simp only [List.map_toArray, List.map_cons, List.map_nil]); first | done | rfl) ?_; (with_reducible refine (instr_Decode.calls k a1 t174 t175 t176 t177 t178 t179 _ A8.out).mono ?_); rintro e w37 ⟨rfl, hb⟩; refine ⟨_, rfl, ?_⟩; have n0_ := mK (bP (by repeat (first | (with_reducible first | exact HB.out | apply bA | apply bN | apply bD) | exact HB.out)) hb); clear HB; have HB := n0_; clear n0_; (try clear hb)) | ((with_reducible refine gate_dst (N := 6) rfl ?_); refine box_event ?hg (N := 6) ?hd (cs := #[.int .i64 0, .int .i64 0, .int .i64 0, .int .i64 0, .int .i64 0]) (t := 24) ?hr ?_; (case hd => rfl); (case hg => rfl); (case hr => first | (go_simp; done) | (go_simp; rfl)); intro gb180 hg w38 hbox hb; have n0_ := mK (bP (by repeat (first | (with_reducible first | exact HB.out | apply bA | apply bN | apply bD) | exact HB.out)) hb); have n1_ := mK (hbox); have n2_ := mK ((by rw [hg]; exact (bZ (by repeat (first | (with_reducible first | exact HB.out | apply bA | apply bN | apply bD) | exact HB.out))) : w.heap.size ≤ gb180)); have n3_ := mK ((by rw [hg]; exact (bZ (by repeat (first | (with_reducible first | exact HB.out | apply bA | apply bN | apply bD) | exact HB.out))) : w.heap.size ≤ gb180)); clear HB; have HB := n0_; have BK180 := n1_; have GW180 := n2_; have GE180 := n3_; clear n0_ n1_ n2_ n3_; clear hb hbox hg; obtain ⟨hcz39_0, hcz39_1, hcz39_2, hcz39_3, hcz39_4, hfz39_0, hfz39_1, hfz39_2, hfz39_3, hfz39_4⟩ := cf5 BK180.out))
      go_ret
      exact ⟨by first | rfl | (simp [errW_none, errW_some] <;> rfl) | (simp [*, errW_none, errW_some] <;> rfl), by repeat (first | (with_reducible first | exact HB.out | apply bA | apply bN | apply bD | refine bS ?_ GE180.out) | exact HB.out)⟩
     ·
      rw [if_neg c34] at H
      exact absurd H (by simp)
   ·
    rw [if_neg c7] at H
    exact absurd H (by simp)
  ·
   rw [if_neg c6] at H
   exact absurd H (by simp)
 ·
  rw [if_neg c4] at H
  exact absurd H (by simp)

end Go.Proofs.Ytfagpgpeiomnpaa.P

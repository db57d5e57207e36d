/- Printed parts. -/
import Derived.Test.YtmajngcgejkghaaPx0
import Derived.Test.YtmajngcgejkghaaCCf
import Derived.Test.YtmajngcgejkghaaPx1
namespace Go.Proofs.Ytmajngcgejkghaa.P
open Go.RowKit Go.Proofs.YtmajngcgejkghaaW.PrintWords Go.Proofs.YtmajngcgejkghaaW.PrintLast Go.Proofs.YtmajngcgejkghaaW.PrintMore
attribute [local go_sem] max2_int min2_int max_two min_two max_three min_three max_four min_four   -- for this text's walks alone
set_option linter.unusedVariables false
set_option linter.unusedSimpArgs false

/-! ### pascalineref02_Check: function 25 -/
mutual
def pascalineref02_Check.j0 : Nat → Int → Bool → Int → Int → Int → Int → Int → Option (Int)
 | 0, _, _, _, _, _, _, _ => none
 | k + 1, x3, x74, x119000, x119001, x119002, x119003, x119004 => if x74 = true then (some 20) else (if x3 = 1 then (pascalineref02_Check.j1 k 0 0 x3 (x3 == 1) x119000 x119001 x119002 x119003 x119004) else (pascalineref02_Check.j1 k 0 0 x3 (x3 == 3) x119000 x119001 x119002 x119003 x119004))
def pascalineref02_Check.j1 : Nat → Int → Int → Int → Bool → Int → Int → Int → Int → Int → Option (Int)
 | 0, _, _, _, _, _, _, _, _, _ => none
 | k + 1, x7, x8, x75, x76, x119000, x119001, x119002, x119003, x119004 => if x76 = true then (if x119004 < (-32768) then (some 20) else (if x119004 > 32767 then (some 20) else (some 0))) else (if x75 = 2 then (pascalineref02_Check.j2 k x7 x8 x75 (x75 == 2) x119000 x119001 x119002 x119003 x119004) else (if x75 = 4 then (pascalineref02_Check.j2 k x7 x8 x75 (x75 == 4) x119000 x119001 x119002 x119003 x119004) else (pascalineref02_Check.j2 k x7 x8 x75 (x75 == 8) x119000 x119001 x119002 x119003 x119004)))
def pascalineref02_Check.j2 : Nat → Int → Int → Int → Bool → Int → Int → Int → Int → Int → Option (Int)
 | 0, _, _, _, _, _, _, _, _, _ => none
 | k + 1, x7, x8, x75, x79, x119000, x119001, x119002, x119003, x119004 => if x79 = true then (if x119004 < x7 then (some 20) else (if x119004 > 65535 then (some 20) else (some 0))) else (if x75 = 7 then (if x119004 < (-8388608) then (some 20) else (if x119004 > 8388607 then (some 20) else (some 0))) else (if x119004 < x7 then (some 20) else (if x119004 > x8 then (some 20) else (some 0))))
end
def pascalineref02_Check.f (k : Nat) (a0_0 : Int) (a0_1 : Int) (a0_2 : Int) (a0_3 : Int) (a0_4 : Int) : Option (Int) := (pascalineref02_Shape.f k a0_0).bind fun t119 => (if t119 < 0 then (some 21) else ((pascalineref02_has.f t119).bind fun bt120 => (if a0_1 < 0 then (pascalineref02_Check.j0 k t119 true a0_0 a0_1 a0_2 a0_3 a0_4) else (if a0_1 > 15 then (pascalineref02_Check.j0 k t119 true a0_0 a0_1 a0_2 a0_3 a0_4) else (if a0_2 < 0 then (pascalineref02_Check.j0 k t119 true a0_0 a0_1 a0_2 a0_3 a0_4) else (if a0_2 > 15 then (pascalineref02_Check.j0 k t119 true a0_0 a0_1 a0_2 a0_3 a0_4) else (if a0_3 < 0 then (pascalineref02_Check.j0 k t119 true a0_0 a0_1 a0_2 a0_3 a0_4) else (if a0_3 > 15 then (pascalineref02_Check.j0 k t119 true a0_0 a0_1 a0_2 a0_3 a0_4) else (if bt120.1 = true then (if bt120.2.1 = true then (if bt120.2.2 = true then (pascalineref02_Check.j0 k t119 false a0_0 a0_1 a0_2 a0_3 a0_4) else (pascalineref02_Check.j0 k t119 (a0_3 != 0) a0_0 a0_1 a0_2 a0_3 a0_4)) else (if a0_2 = 0 then (if bt120.2.2 = true then (pascalineref02_Check.j0 k t119 false a0_0 a0_1 a0_2 a0_3 a0_4) else (pascalineref02_Check.j0 k t119 (a0_3 != 0) a0_0 a0_1 a0_2 a0_3 a0_4)) else (pascalineref02_Check.j0 k t119 true a0_0 a0_1 a0_2 a0_3 a0_4))) else (if a0_1 = 0 then (if bt120.2.1 = true then (if bt120.2.2 = true then (pascalineref02_Check.j0 k t119 false a0_0 a0_1 a0_2 a0_3 a0_4) else (pascalineref02_Check.j0 k t119 (a0_3 != 0) a0_0 a0_1 a0_2 a0_3 a0_4)) else (if a0_2 = 0 then (if bt120.2.2 = true then (pascalineref02_Check.j0 k t119 false a0_0 a0_1 a0_2 a0_3 a0_4) else (pascalineref02_Check.j0 k t119 (a0_3 != 0) a0_0 a0_1 a0_2 a0_3 a0_4)) else (pascalineref02_Check.j0 k t119 true a0_0 a0_1 a0_2 a0_3 a0_4))) else (pascalineref02_Check.j0 k t119 true a0_0 a0_1 a0_2 a0_3 a0_4)))))))))))
theorem pascalineref02_Check.mono_l : ∀ k, (∀ y0 y1 y2 y3 y4 y5 y6, LeO (pascalineref02_Check.j0 k y0 y1 y2 y3 y4 y5 y6) (pascalineref02_Check.j0 (k + 1) y0 y1 y2 y3 y4 y5 y6)) ∧ (∀ y0 y1 y2 y3 y4 y5 y6 y7 y8, LeO (pascalineref02_Check.j1 k y0 y1 y2 y3 y4 y5 y6 y7 y8) (pascalineref02_Check.j1 (k + 1) y0 y1 y2 y3 y4 y5 y6 y7 y8)) ∧ (∀ y0 y1 y2 y3 y4 y5 y6 y7 y8, LeO (pascalineref02_Check.j2 k y0 y1 y2 y3 y4 y5 y6 y7 y8) (pascalineref02_Check.j2 (k + 1) y0 y1 y2 y3 y4 y5 y6 y7 y8))
 | 0 => ⟨fun _ _ _ _ _ _ _ r h => by simp [pascalineref02_Check.j0] at h, fun _ _ _ _ _ _ _ _ _ r h => by simp [pascalineref02_Check.j1] at h, fun _ _ _ _ _ _ _ _ _ r h => by simp [pascalineref02_Check.j2] at h⟩
 | k + 1 => by
  obtain ⟨ih0, ih1, ih2⟩ := pascalineref02_Check.mono_l k
  refine ⟨?_, ?_, ?_⟩
  ·
   intro y0 y1 y2 y3 y4 y5 y6
   unfold pascalineref02_Check.j0
   repeat' first
   | (with_reducible exact ih0 _ _ _ _ _ _ _)
   | (with_reducible exact ih1 _ _ _ _ _ _ _ _ _)
   | (with_reducible exact ih2 _ _ _ _ _ _ _ _ _)
   | (with_reducible exact pascalineref02_Shape.mono _ _)
   | (with_reducible exact LeO.refl _)
   | (with_reducible exact LeO.none _)
   | (with_reducible refine LeO.ite ?_ ?_)
   | (with_reducible refine LeO.bind ?_ (fun _ => ?_))
   | exact LeO.none _
   | refine LeO.ite ?_ ?_
   | refine LeO.bind ?_ (fun _ => ?_)
  ·
   intro y0 y1 y2 y3 y4 y5 y6 y7 y8
   unfold pascalineref02_Check.j1
   repeat' first
   | (with_reducible exact ih0 _ _ _ _ _ _ _)
   | (with_reducible exact ih1 _ _ _ _ _ _ _ _ _)
   | (with_reducible exact ih2 _ _ _ _ _ _ _ _ _)
   | (with_reducible exact pascalineref02_Shape.mono _ _)
   | (with_reducible exact LeO.refl _)
   | (with_reducible exact LeO.none _)
   | (with_reducible refine LeO.ite ?_ ?_)
   | (with_reducible refine LeO.bind ?_ (fun _ => ?_))
   | exact LeO.none _
   | refine LeO.ite ?_ ?_
   | refine LeO.bind ?_ (fun _ => ?_)
  ·
   intro y0 y1 y2 y3 y4 y5 y6 y7 y8
   unfold pascalineref02_Check.j2
   repeat' first
   | (with_reducible exact ih0 _ _ _ _ _ _ _)
   | (with_reducible exact ih1 _ _ _ _ _ _ _ _ _)
   | (with_reducible exact ih2 _ _ _ _ _ _ _ _ _)
   | (with_reducible exact pascalineref02_Shape.mono _ _)
   | (with_reducible exact LeO.refl _)
   | (with_reducible exact LeO.none _)
   | (with_reducible refine LeO.ite ?_ ?_)
   | (with_reducible refine LeO.bind ?_ (fun _ => ?_))
   | exact LeO.none _
   | refine LeO.ite ?_ ?_
   | refine LeO.bind ?_ (fun _ => ?_)
theorem pascalineref02_Check.mono : ∀ a0 a1 a2 a3 a4 k, LeO (pascalineref02_Check.f k a0 a1 a2 a3 a4) (pascalineref02_Check.f (k + 1) a0 a1 a2 a3 a4) := by
 intro a0 a1 a2 a3 a4 k
 obtain ⟨ih0, ih1, ih2⟩ := pascalineref02_Check.mono_l k
 unfold pascalineref02_Check.f
 repeat' first
  | (with_reducible exact ih0 _ _ _ _ _ _ _)
  | (with_reducible exact ih1 _ _ _ _ _ _ _ _ _)
  | (with_reducible exact ih2 _ _ _ _ _ _ _ _ _)
  | (with_reducible exact pascalineref02_Shape.mono _ _)
  | (with_reducible exact LeO.refl _)
  | (with_reducible exact LeO.none _)
  | (with_reducible refine LeO.ite ?_ ?_)
  | (with_reducible refine LeO.bind ?_ (fun _ => ?_))
  | exact LeO.none _
  | refine LeO.ite ?_ ?_
  | refine LeO.bind ?_ (fun _ => ?_)
set_option maxHeartbeats 8000000 in
set_option maxRecDepth 100000 in
theorem pascalineref02_Check.calls (k : Nat) (a0_0 : Int) (a0_1 : Int) (a0_2 : Int) (a0_3 : Int) (a0_4 : Int) (r : Int) (w : World) (h : pascalineref02_Check.f k a0_0 a0_1 a0_2 a0_3 a0_4 = some r) :
 Calls Try.prog 25 #[.agg #[.int .i64 a0_0, .int .i64 a0_1, .int .i64 a0_2, .int .i64 a0_3, .int .i64 a0_4]] w fun e w' => e = .returned (.int .i64 r) ∧ Below w.heap.size w w' := by
 have hu31 := Try.underlying31
 have HB := mK (Below.refl w.heap.size w)
 have H : ((pascalineref02_Shape.f k a0_0).bind fun t119 => (if t119 < 0 then (some 21) else ((pascalineref02_has.f t119).bind fun bt120 => (if a0_1 < 0 then (pascalineref02_Check.j0 k t119 true a0_0 a0_1 a0_2 a0_3 a0_4) else (if a0_1 > 15 then (pascalineref02_Check.j0 k t119 true a0_0 a0_1 a0_2 a0_3 a0_4) else (if a0_2 < 0 then (pascalineref02_Check.j0 k t119 true a0_0 a0_1 a0_2 a0_3 a0_4) else (if a0_2 > 15 then (pascalineref02_Check.j0 k t119 true a0_0 a0_1 a0_2 a0_3 a0_4) else (if a0_3 < 0 then (pascalineref02_Check.j0 k t119 true a0_0 a0_1 a0_2 a0_3 a0_4) else (if a0_3 > 15 then (pascalineref02_Check.j0 k t119 true a0_0 a0_1 a0_2 a0_3 a0_4) else (if bt120.1 = true then (if bt120.2.1 = true then (if bt120.2.2 = true then (pascalineref02_Check.j0 k t119 false a0_0 a0_1 a0_2 a0_3 a0_4) else (pascalineref02_Check.j0 k t119 (a0_3 != 0) a0_0 a0_1 a0_2 a0_3 a0_4)) else (if a0_2 = 0 then (if bt120.2.2 = true then (pascalineref02_Check.j0 k t119 false a0_0 a0_1 a0_2 a0_3 a0_4) else (pascalineref02_Check.j0 k t119 (a0_3 != 0) a0_0 a0_1 a0_2 a0_3 a0_4)) else (pascalineref02_Check.j0 k t119 true a0_0 a0_1 a0_2 a0_3 a0_4))) else (if a0_1 = 0 then (if bt120.2.1 = true then (if bt120.2.2 = true then (pascalineref02_Check.j0 k t119 false a0_0 a0_1 a0_2 a0_3 a0_4) else (pascalineref02_Check.j0 k t119 (a0_3 != 0) a0_0 a0_1 a0_2 a0_3 a0_4)) else (if a0_2 = 0 then (if bt120.2.2 = true then (pascalineref02_Check.j0 k t119 false a0_0 a0_1 a0_2 a0_3 a0_4) else (pascalineref02_Check.j0 k t119 (a0_3 != 0) a0_0 a0_1 a0_2 a0_3 a0_4)) else (pascalineref02_Check.j0 k t119 true a0_0 a0_1 a0_2 a0_3 a0_4))) else (pascalineref02_Check.j0 k t119 true a0_0 a0_1 a0_2 a0_3 a0_4)))))))))))) = some r := h
 clear h
 replace H := oB H
 obtain ⟨t119, A20, H⟩ := H
 replace H : (if t119 < 0 then (some 21) else ((pascalineref02_has.f t119).bind fun bt120 => (if a0_1 < 0 then (pascalineref02_Check.j0 k t119 true a0_0 a0_1 a0_2 a0_3 a0_4) else (if a0_1 > 15 then (pascalineref02_Check.j0 k t119 true a0_0 a0_1 a0_2 a0_3 a0_4) else (if a0_2 < 0 then (pascalineref02_Check.j0 k t119 true a0_0 a0_1 a0_2 a0_3 a0_4) else (if a0_2 > 15 then (pascalineref02_Check.j0 k t119 true a0_0 a0_1 a0_2 a0_3 a0_4) else (if a0_3 < 0 then (pascalineref02_Check.j0 k t119 true a0_0 a0_1 a0_2 a0_3 a0_4) else (if a0_3 > 15 then (pascalineref02_Check.j0 k t119 true a0_0 a0_1 a0_2 a0_3 a0_4) else (if bt120.1 = true then (if bt120.2.1 = true then (if bt120.2.2 = true then (pascalineref02_Check.j0 k t119 false a0_0 a0_1 a0_2 a0_3 a0_4) else (pascalineref02_Check.j0 k t119 (a0_3 != 0) a0_0 a0_1 a0_2 a0_3 a0_4)) else (if a0_2 = 0 then (if bt120.2.2 = true then (pascalineref02_Check.j0 k t119 false a0_0 a0_1 a0_2 a0_3 a0_4) else (pascalineref02_Check.j0 k t119 (a0_3 != 0) a0_0 a0_1 a0_2 a0_3 a0_4)) else (pascalineref02_Check.j0 k t119 true a0_0 a0_1 a0_2 a0_3 a0_4))) else (if a0_1 = 0 then (if bt120.2.1 = true then (if bt120.2.2 = true then (pascalineref02_Check.j0 k t119 false a0_0 a0_1 a0_2 a0_3 a0_4) else (pascalineref02_Check.j0 k t119 (a0_3 != 0) a0_0 a0_1 a0_2 a0_3 a0_4)) else (if a0_2 = 0 then (if bt120.2.2 = true then (pascalineref02_Check.j0 k t119 false a0_0 a0_1 a0_2 a0_3 a0_4) else (pascalineref02_Check.j0 k t119 (a0_3 != 0) a0_0 a0_1 a0_2 a0_3 a0_4)) else (pascalineref02_Check.j0 k t119 true a0_0 a0_1 a0_2 a0_3 a0_4))) else (pascalineref02_Check.j0 k t119 true a0_0 a0_1 a0_2 a0_3 a0_4))))))))))) = some r := H
 have A2 := mK A20
 clear A20
 by_cases c3 : t119 < 0
 ·
  rw [if_pos c3] at H
  have c3b0 : decide (t119 < 0) = true := decide_eq_true c3
  clear c3
  obtain rfl := Option.some.inj H
  go_enter Try.func25, Try.ntmps25
  go_wp2_with (first | ((with_reducible refine gate_dst (N := 1) rfl ?_); refine box_event ?hg (N := 1) ?hd (cs := #[.int .i64 a0_0, .int .i64 a0_1, .int .i64 a0_2, .int .i64 a0_3, .int .i64 a0_4]) (t := 31) ?hr ?_; (case hd => rfl); (case hg => rfl); (case hr => first | (go_simp; done) | (go_simp; rfl)); intro gb118 hg w4 hbox hb; have n0_ := mK (bP (by repeat (first | (with_reducible first | exact HB.out | apply bA | apply bN | apply bD) | exact HB.out)) hb); have n1_ := mK (hbox); have n2_ := mK ((by rw [hg]; exact (bZ (by repeat (first | (with_reducible first | exact HB.out | apply bA | apply bN | apply bD) | exact HB.out))) : w.heap.size ≤ gb118)); have n3_ := mK ((by rw [hg]; exact (bZ (by repeat (first | (with_reducible first | exact HB.out | apply bA | apply bN | apply bD) | exact HB.out))) : w.heap.size ≤ gb118)); clear HB; have HB := n0_; have BK118 := n1_; have GW118 := n2_; have GE118 := n3_; clear n0_ n1_ n2_ n3_; clear hb hbox hg; obtain ⟨hcz5_0, hcz5_1, hcz5_2, hcz5_3, hcz5_4, hfz5_0, hfz5_1, hfz5_2, hfz5_3, hfz5_4⟩ := cf5 BK118.out) | ((with_reducible refine gate_callee (f := 14) rfl ?_); refine goesL_ (some 11) rfl rfl Try.func14 (by kernel_rfl) rfl #[.int .i64 a0_0] rfl (by (try simp only [List.map_toArray, List.map_cons, List.map_nil]); first | done | rfl) ?_; (with_reducible refine (pascalineref02_Shape.calls k a0_0 t119 _ A2.out).mono ?_); rintro e w' ⟨rfl, ⟨nd, rfl⟩⟩; refine ⟨_, rfl, ?_⟩))
  go_ret
  exact ⟨by first | rfl | (simp [errW_none, errW_some] <;> rfl) | (simp [*, errW_none, errW_some] <;> rfl), by repeat (first | (with_reducible first | exact HB.out | apply bA | apply bN | apply bD | refine bS ?_ GE118.out) | exact HB.out)⟩
 ·
  rw [if_neg c3] at H
  have c3b0 : decide (t119 < 0) = false := decide_eq_false c3
  clear c3
  replace H := oB H
  obtain ⟨⟨t120, t121, t122⟩, A60, H⟩ := H
  replace H : (if a0_1 < 0 then (pascalineref02_Check.j0 k t119 true a0_0 a0_1 a0_2 a0_3 a0_4) else (if a0_1 > 15 then (pascalineref02_Check.j0 k t119 true a0_0 a0_1 a0_2 a0_3 a0_4) else (if a0_2 < 0 then (pascalineref02_Check.j0 k t119 true a0_0 a0_1 a0_2 a0_3 a0_4) else (if a0_2 > 15 then (pascalineref02_Check.j0 k t119 true a0_0 a0_1 a0_2 a0_3 a0_4) else (if a0_3 < 0 then (pascalineref02_Check.j0 k t119 true a0_0 a0_1 a0_2 a0_3 a0_4) else (if a0_3 > 15 then (pascalineref02_Check.j0 k t119 true a0_0 a0_1 a0_2 a0_3 a0_4) else (if t120 = true then (if t121 = true then (if t122 = true then (pascalineref02_Check.j0 k t119 false a0_0 a0_1 a0_2 a0_3 a0_4) else (pascalineref02_Check.j0 k t119 (a0_3 != 0) a0_0 a0_1 a0_2 a0_3 a0_4)) else (if a0_2 = 0 then (if t122 = true then (pascalineref02_Check.j0 k t119 false a0_0 a0_1 a0_2 a0_3 a0_4) else (pascalineref02_Check.j0 k t119 (a0_3 != 0) a0_0 a0_1 a0_2 a0_3 a0_4)) else (pascalineref02_Check.j0 k t119 true a0_0 a0_1 a0_2 a0_3 a0_4))) else (if a0_1 = 0 then (if t121 = true then (if t122 = true then (pascalineref02_Check.j0 k t119 false a0_0 a0_1 a0_2 a0_3 a0_4) else (pascalineref02_Check.j0 k t119 (a0_3 != 0) a0_0 a0_1 a0_2 a0_3 a0_4)) else (if a0_2 = 0 then (if t122 = true then (pascalineref02_Check.j0 k t119 false a0_0 a0_1 a0_2 a0_3 a0_4) else (pascalineref02_Check.j0 k t119 (a0_3 != 0) a0_0 a0_1 a0_2 a0_3 a0_4)) else (pascalineref02_Check.j0 k t119 true a0_0 a0_1 a0_2 a0_3 a0_4))) else (pascalineref02_Check.j0 k t119 true a0_0 a0_1 a0_2 a0_3 a0_4))))))))) = some r := H
  have A6 := mK A60
  clear A60
  have HC7 := mK H
  clear H
  go_enter Try.func25, Try.ntmps25
  go_upto_region 5 with (first | ((with_reducible refine gate_dst (N := 1) rfl ?_); refine box_event ?hg (N := 1) ?hd (cs := #[.int .i64 a0_0, .int .i64 a0_1, .int .i64 a0_2, .int .i64 a0_3, .int .i64 a0_4]) (t := 31) ?hr ?_; (case hd => rfl); (case hg => rfl); (case hr => first | (go_simp; done) | (go_simp; rfl)); intro gb118 hg w8 hbox hb; have n0_ := mK (bP (by repeat (first | (with_reducible first | exact HB.out | apply bA | apply bN | apply bD) | exact HB.out)) hb); have n1_ := mK (hbox); have n2_ := mK ((by rw [hg]; exact (bZ (by repeat (first | (with_reducible first | exact HB.out | apply bA | apply bN | apply bD) | exact HB.out))) : w.heap.size ≤ gb118)); have n3_ := mK ((by rw [hg]; exact (bZ (by repeat (first | (with_reducible first | exact HB.out | apply bA | apply bN | apply bD) | exact HB.out))) : w.heap.size ≤ gb118)); clear HB; have HB := n0_; have BK118 := n1_; have GW118 := n2_; have GE118 := n3_; clear n0_ n1_ n2_ n3_; clear hb hbox hg; obtain ⟨hcz9_0, hcz9_1, hcz9_2, hcz9_3, hcz9_4, hfz9_0, hfz9_1, hfz9_2, hfz9_3, hfz9_4⟩ := cf5 BK118.out) | ((with_reducible refine gate_callee (f := 14) rfl ?_); refine goesL_ (some 11) rfl rfl Try.func14 (by kernel_rfl) rfl #[.int .i64 a0_0] rfl (by (try simp only [List.map_toArray, List.map_cons, List.map_nil]); first | done | rfl) ?_; (with_reducible refine (pascalineref02_Shape.calls k a0_0 t119 _ A2.out).mono ?_); rintro e w' ⟨rfl, ⟨nd, rfl⟩⟩; refine ⟨_, rfl, ?_⟩) | ((with_reducible refine gate_callee (f := 30) rfl ?_); refine goesL_ (some 16) rfl rfl Try.func30 (by kernel_rfl) rfl #[.int .i64 t119] rfl (by (try simp only [List.map_toArray, List.map_cons, List.map_nil]); first | done | rfl) ?_; (with_reducible refine (pascalineref02_has.calls t119 t120 t121 t122 _ A6.out).mono ?_); rintro e w' ⟨rfl, ⟨nd, rfl⟩⟩; refine ⟨_, rfl, ?_⟩))
  (try simp only [Act.put, List.setIfInBounds_toArray, List.set_cons_zero, List.set_cons_succ])
  go_cut [74] (fun v74 wc => ∃ (kq : Nat) (x74_6 : Bool), v74 = .bool x74_6 ∧ Aside0 (pascalineref02_Check.j0 kq t119 x74_6 a0_0 a0_1 a0_2 a0_3 a0_4 = some r) ∧ Aside0 (kq ≤ k) ∧ Aside0 (wc.heap[gb118]? = some (o5 a0_0 a0_1 a0_2 a0_3 a0_4 31)) ∧ Aside0 (Below w.heap.size w wc))
  case first =>
   have H := HC7.out
   clear HC7
   by_cases c10 : a0_1 < 0
   ·
    rw [if_pos c10] at H
    have c10b0 : decide (a0_1 < 0) = true := decide_eq_true c10
    clear c10
    (first | rw [c10b0] | (simp only [i64_w, i32_w]; rw [c10b0]) | skip)
    have H' := mK H
    clear H
    obtain ⟨hcz11_0, hcz11_1, hcz11_2, hcz11_3, hcz11_4, hfz11_0, hfz11_1, hfz11_2, hfz11_3, hfz11_4⟩ := cf5 BK118.out
    go_wp2
    go_meet
    case rel => exact ⟨_, (true), (by first | rfl | (simp; done) | (simp [*]; done)), H', ⟨by first | omega | exact Nat.le_refl _⟩, ⟨by (with_reducible repeat (first | refine kN ?_ _ | refine kD ?_ | refine kA ?_ _)); exact BK118.out⟩, ⟨by repeat (first | (with_reducible first | exact HB.out | apply bA | apply bN | apply bD | refine bS ?_ GE118.out) | exact HB.out)⟩⟩
   ·
    rw [if_neg c10] at H
    have c10b0 : decide (a0_1 < 0) = false := decide_eq_false c10
    clear c10
    (first | rw [c10b0] | (simp only [i64_w, i32_w]; rw [c10b0]) | skip)
    by_cases c12 : a0_1 > 15
    ·
     rw [if_pos c12] at H
     have c12b0 : decide (15 < a0_1) = true := decide_eq_true c12
     clear c12
     have H' := mK H
     clear H
     obtain ⟨hcz13_0, hcz13_1, hcz13_2, hcz13_3, hcz13_4, hfz13_0, hfz13_1, hfz13_2, hfz13_3, hfz13_4⟩ := cf5 BK118.out
     go_wp2
     go_meet
     case rel => exact ⟨_, (true), (by first | rfl | (simp; done) | (simp [*]; done)), H', ⟨by first | omega | exact Nat.le_refl _⟩, ⟨by (with_reducible repeat (first | refine kN ?_ _ | refine kD ?_ | refine kA ?_ _)); exact BK118.out⟩, ⟨by repeat (first | (with_reducible first | exact HB.out | apply bA | apply bN | apply bD | refine bS ?_ GE118.out) | exact HB.out)⟩⟩
    ·
     rw [if_neg c12] at H
     have c12b0 : decide (15 < a0_1) = false := decide_eq_false c12
     clear c12
     by_cases c14 : a0_2 < 0
     ·
      rw [if_pos c14] at H
      have c14b0 : decide (a0_2 < 0) = true := decide_eq_true c14
      clear c14
      have H' := mK H
      clear H
      obtain ⟨hcz15_0, hcz15_1, hcz15_2, hcz15_3, hcz15_4, hfz15_0, hfz15_1, hfz15_2, hfz15_3, hfz15_4⟩ := cf5 BK118.out
      go_wp2
      go_meet
      case rel => exact ⟨_, (true), (by first | rfl | (simp; done) | (simp [*]; done)), H', ⟨by first | omega | exact Nat.le_refl _⟩, ⟨by (with_reducible repeat (first | refine kN ?_ _ | refine kD ?_ | refine kA ?_ _)); exact BK118.out⟩, ⟨by repeat (first | (with_reducible first | exact HB.out | apply bA | apply bN | apply bD | refine bS ?_ GE118.out) | exact HB.out)⟩⟩
     ·
      rw [if_neg c14] at H
      have c14b0 : decide (a0_2 < 0) = false := decide_eq_false c14
      clear c14
      by_cases c16 : a0_2 > 15
      ·
       rw [if_pos c16] at H
       have c16b0 : decide (15 < a0_2) = true := decide_eq_true c16
       clear c16
       have H' := mK H
       clear H
       obtain ⟨hcz17_0, hcz17_1, hcz17_2, hcz17_3, hcz17_4, hfz17_0, hfz17_1, hfz17_2, hfz17_3, hfz17_4⟩ := cf5 BK118.out
       go_wp2
       go_meet
       case rel => exact ⟨_, (true), (by first | rfl | (simp; done) | (simp [*]; done)), H', ⟨by first | omega | exact Nat.le_refl _⟩, ⟨by (with_reducible repeat (first | refine kN ?_ _ | refine kD ?_ | refine kA ?_ _)); exact BK118.out⟩, ⟨by repeat (first | (with_reducible first | exact HB.out | apply bA | apply bN | apply bD | refine bS ?_ GE118.out) | exact HB.out)⟩⟩
      ·
       rw [if_neg c16] at H
       have c16b0 : decide (15 < a0_2) = false := decide_eq_false c16
       clear c16
       by_cases c18 : a0_3 < 0
       ·
        rw [if_pos c18] at H
        have c18b0 : decide (a0_3 < 0) = true := decide_eq_true c18
        clear c18
        have H' := mK H
        clear H
        obtain ⟨hcz19_0, hcz19_1, hcz19_2, hcz19_3, hcz19_4, hfz19_0, hfz19_1, hfz19_2, hfz19_3, hfz19_4⟩ := cf5 BK118.out
        go_wp2
        go_meet
        case rel => exact ⟨_, (true), (by first | rfl | (simp; done) | (simp [*]; done)), H', ⟨by first | omega | exact Nat.le_refl _⟩, ⟨by (with_reducible repeat (first | refine kN ?_ _ | refine kD ?_ | refine kA ?_ _)); exact BK118.out⟩, ⟨by repeat (first | (with_reducible first | exact HB.out | apply bA | apply bN | apply bD | refine bS ?_ GE118.out) | exact HB.out)⟩⟩
       ·
        rw [if_neg c18] at H
        have c18b0 : decide (a0_3 < 0) = false := decide_eq_false c18
        clear c18
        by_cases c20 : a0_3 > 15
        ·
         rw [if_pos c20] at H
         have c20b0 : decide (15 < a0_3) = true := decide_eq_true c20
         clear c20
         have H' := mK H
         clear H
         obtain ⟨hcz21_0, hcz21_1, hcz21_2, hcz21_3, hcz21_4, hfz21_0, hfz21_1, hfz21_2, hfz21_3, hfz21_4⟩ := cf5 BK118.out
         go_wp2
         go_meet
         case rel => exact ⟨_, (true), (by first | rfl | (simp; done) | (simp [*]; done)), H', ⟨by first | omega | exact Nat.le_refl _⟩, ⟨by (with_reducible repeat (first | refine kN ?_ _ | refine kD ?_ | refine kA ?_ _)); exact BK118.out⟩, ⟨by repeat (first | (with_reducible first | exact HB.out | apply bA | apply bN | apply bD | refine bS ?_ GE118.out) | exact HB.out)⟩⟩
        ·
         rw [if_neg c20] at H
         have c20b0 : decide (15 < a0_3) = false := decide_eq_false c20
         clear c20
         by_cases c22 : t120 = true
         ·
          subst c22
          have H1 : (if t121 = true then (if t122 = true then (pascalineref02_Check.j0 k t119 false a0_0 a0_1 a0_2 a0_3 a0_4) else (pascalineref02_Check.j0 k t119 (a0_3 != 0) a0_0 a0_1 a0_2 a0_3 a0_4)) else (if a0_2 = 0 then (if t122 = true then (pascalineref02_Check.j0 k t119 false a0_0 a0_1 a0_2 a0_3 a0_4) else (pascalineref02_Check.j0 k t119 (a0_3 != 0) a0_0 a0_1 a0_2 a0_3 a0_4)) else (pascalineref02_Check.j0 k t119 true a0_0 a0_1 a0_2 a0_3 a0_4))) = some r := by rw [if_pos rfl] at H; exact H
          clear H
          have H := H1
          clear H1
          by_cases c23 : t121 = true
          ·
           subst c23
           have H1 : (if t122 = true then (pascalineref02_Check.j0 k t119 false a0_0 a0_1 a0_2 a0_3 a0_4) else (pascalineref02_Check.j0 k t119 (a0_3 != 0) a0_0 a0_1 a0_2 a0_3 a0_4)) = some r := by rw [if_pos rfl] at H; exact H
           clear H
           have H := H1
           clear H1
           by_cases c24 : t122 = true
           ·
            subst c24
            have H1 : (pascalineref02_Check.j0 k t119 false a0_0 a0_1 a0_2 a0_3 a0_4) = some r := by rw [if_pos rfl] at H; exact H
            clear H
            have H := H1
            clear H1
            have H' := mK H
            clear H
            obtain ⟨hcz25_0, hcz25_1, hcz25_2, hcz25_3, hcz25_4, hfz25_0, hfz25_1, hfz25_2, hfz25_3, hfz25_4⟩ := cf5 BK118.out
            go_wp2
            go_meet
            case rel => exact ⟨_, (false), (by first | rfl | (simp; done) | (simp [*]; done)), H', ⟨by first | omega | exact Nat.le_refl _⟩, ⟨by (with_reducible repeat (first | refine kN ?_ _ | refine kD ?_ | refine kA ?_ _)); exact BK118.out⟩, ⟨by repeat (first | (with_reducible first | exact HB.out | apply bA | apply bN | apply bD | refine bS ?_ GE118.out) | exact HB.out)⟩⟩
           ·
            replace c24 := Bool.eq_false_iff.mpr c24
            subst c24
            have H1 : (pascalineref02_Check.j0 k t119 (a0_3 != 0) a0_0 a0_1 a0_2 a0_3 a0_4) = some r := by rw [if_neg (show ¬ (false = true) by decide)] at H; exact H
            clear H
            have H := H1
            clear H1
            have H' := mK H
            clear H
            obtain ⟨hcz26_0, hcz26_1, hcz26_2, hcz26_3, hcz26_4, hfz26_0, hfz26_1, hfz26_2, hfz26_3, hfz26_4⟩ := cf5 BK118.out
            go_wp2
            go_meet
            case rel => exact ⟨_, ((a0_3 != 0)), (by first | rfl | (simp; done) | (simp [*]; done)), H', ⟨by first | omega | exact Nat.le_refl _⟩, ⟨by (with_reducible repeat (first | refine kN ?_ _ | refine kD ?_ | refine kA ?_ _)); exact BK118.out⟩, ⟨by repeat (first | (with_reducible first | exact HB.out | apply bA | apply bN | apply bD | refine bS ?_ GE118.out) | exact HB.out)⟩⟩
          ·
           replace c23 := Bool.eq_false_iff.mpr c23
           subst c23
           have H1 : (if a0_2 = 0 then (if t122 = true then (pascalineref02_Check.j0 k t119 false a0_0 a0_1 a0_2 a0_3 a0_4) else (pascalineref02_Check.j0 k t119 (a0_3 != 0) a0_0 a0_1 a0_2 a0_3 a0_4)) else (pascalineref02_Check.j0 k t119 true a0_0 a0_1 a0_2 a0_3 a0_4)) = some r := by rw [if_neg (show ¬ (false = true) by decide)] at H; exact H
           clear H
           have H := H1
           clear H1
           by_cases c27 : a0_2 = 0
           ·
            rw [if_pos c27] at H
            have c27b0 : (a0_2 == 0) = true := beq_iff_eq.mpr c27
            have c27b1 : (a0_2 != 0) = false := bR c27
            clear c27
            by_cases c28 : t122 = true
            ·
             subst c28
             have H1 : (pascalineref02_Check.j0 k t119 false a0_0 a0_1 a0_2 a0_3 a0_4) = some r := by rw [if_pos rfl] at H; exact H
             clear H
             have H := H1
             clear H1
             have H' := mK H
             clear H
             obtain ⟨hcz29_0, hcz29_1, hcz29_2, hcz29_3, hcz29_4, hfz29_0, hfz29_1, hfz29_2, hfz29_3, hfz29_4⟩ := cf5 BK118.out
             go_wp2
             go_meet
             case rel => exact ⟨_, (false), (by first | rfl | (simp; done) | (simp [*]; done)), H', ⟨by first | omega | exact Nat.le_refl _⟩, ⟨by (with_reducible repeat (first | refine kN ?_ _ | refine kD ?_ | refine kA ?_ _)); exact BK118.out⟩, ⟨by repeat (first | (with_reducible first | exact HB.out | apply bA | apply bN | apply bD | refine bS ?_ GE118.out) | exact HB.out)⟩⟩
            ·
             replace c28 := Bool.eq_false_iff.mpr c28
             subst c28
             have H1 : (pascalineref02_Check.j0 k t119 (a0_3 != 0) a0_0 a0_1 a0_2 a0_3 a0_4) = some r := by rw [if_neg (show ¬ (false = true) by decide)] at H; exact H
             clear H
             have H := H1
             clear H1
             have H' := mK H
             clear H
             obtain ⟨hcz30_0, hcz30_1, hcz30_2, hcz30_3, hcz30_4, hfz30_0, hfz30_1, hfz30_2, hfz30_3, hfz30_4⟩ := cf5 BK118.out
             go_wp2
             go_meet
             case rel => exact ⟨_, ((a0_3 != 0)), (by first | rfl | (simp; done) | (simp [*]; done)), H', ⟨by first | omega | exact Nat.le_refl _⟩, ⟨by (with_reducible repeat (first | refine kN ?_ _ | refine kD ?_ | refine kA ?_ _)); exact BK118.out⟩, ⟨by repeat (first | (with_reducible first | exact HB.out | apply bA | apply bN | apply bD | refine bS ?_ GE118.out) | exact HB.out)⟩⟩
           ·
            rw [if_neg c27] at H
            have c27b0 : (a0_2 == 0) = false := bQ c27
            have c27b1 : (a0_2 != 0) = true := bne_iff_ne.mpr c27
            have H' := mK H
            clear H
            obtain ⟨hcz31_0, hcz31_1, hcz31_2, hcz31_3, hcz31_4, hfz31_0, hfz31_1, hfz31_2, hfz31_3, hfz31_4⟩ := cf5 BK118.out
            go_wp2
            go_meet
            case rel => exact ⟨_, (true), (by first | rfl | (simp; done) | (simp [*]; done)), H', ⟨by first | omega | exact Nat.le_refl _⟩, ⟨by (with_reducible repeat (first | refine kN ?_ _ | refine kD ?_ | refine kA ?_ _)); exact BK118.out⟩, ⟨by repeat (first | (with_reducible first | exact HB.out | apply bA | apply bN | apply bD | refine bS ?_ GE118.out) | exact HB.out)⟩⟩
         ·
          replace c22 := Bool.eq_false_iff.mpr c22
          subst c22
          have H1 : (if a0_1 = 0 then (if t121 = true then (if t122 = true then (pascalineref02_Check.j0 k t119 false a0_0 a0_1 a0_2 a0_3 a0_4) else (pascalineref02_Check.j0 k t119 (a0_3 != 0) a0_0 a0_1 a0_2 a0_3 a0_4)) else (if a0_2 = 0 then (if t122 = true then (pascalineref02_Check.j0 k t119 false a0_0 a0_1 a0_2 a0_3 a0_4) else (pascalineref02_Check.j0 k t119 (a0_3 != 0) a0_0 a0_1 a0_2 a0_3 a0_4)) else (pascalineref02_Check.j0 k t119 true a0_0 a0_1 a0_2 a0_3 a0_4))) else (pascalineref02_Check.j0 k t119 true a0_0 a0_1 a0_2 a0_3 a0_4)) = some r := by rw [if_neg (show ¬ (false = true) by decide)] at H; exact H
          clear H
          have H := H1
          clear H1
          by_cases c32 : a0_1 = 0
          ·
           rw [if_pos c32] at H
           have c32b0 : (a0_1 == 0) = true := beq_iff_eq.mpr c32
           have c32b1 : (a0_1 != 0) = false := bR c32
           clear c32
           by_cases c33 : t121 = true
           ·
            subst c33
            have H1 : (if t122 = true then (pascalineref02_Check.j0 k t119 false a0_0 a0_1 a0_2 a0_3 a0_4) else (pascalineref02_Check.j0 k t119 (a0_3 != 0) a0_0 a0_1 a0_2 a0_3 a0_4)) = some r := by rw [if_pos rfl] at H; exact H
            clear H
            have H := H1
            clear H1
            by_cases c34 : t122 = true
            ·
             subst c34
             have H1 : (pascalineref02_Check.j0 k t119 false a0_0 a0_1 a0_2 a0_3 a0_4) = some r := by rw [if_pos rfl] at H; exact H
             clear H
             have H := H1
             clear H1
             have H' := mK H
             clear H
             obtain ⟨hcz35_0, hcz35_1, hcz35_2, hcz35_3, hcz35_4, hfz35_0, hfz35_1, hfz35_2, hfz35_3, hfz35_4⟩ := cf5 BK118.out
             go_wp2
             go_meet
             case rel => exact ⟨_, (false), (by first | rfl | (simp; done) | (simp [*]; done)), H', ⟨by first | omega | exact Nat.le_refl _⟩, ⟨by (with_reducible repeat (first | refine kN ?_ _ | refine kD ?_ | refine kA ?_ _)); exact BK118.out⟩, ⟨by repeat (first | (with_reducible first | exact HB.out | apply bA | apply bN | apply bD | refine bS ?_ GE118.out) | exact HB.out)⟩⟩
            ·
             replace c34 := Bool.eq_false_iff.mpr c34
             subst c34
             have H1 : (pascalineref02_Check.j0 k t119 (a0_3 != 0) a0_0 a0_1 a0_2 a0_3 a0_4) = some r := by rw [if_neg (show ¬ (false = true) by decide)] at H; exact H
             clear H
             have H := H1
             clear H1
             have H' := mK H
             clear H
             obtain ⟨hcz36_0, hcz36_1, hcz36_2, hcz36_3, hcz36_4, hfz36_0, hfz36_1, hfz36_2, hfz36_3, hfz36_4⟩ := cf5 BK118.out
             go_wp2
             go_meet
             case rel => exact ⟨_, ((a0_3 != 0)), (by first | rfl | (simp; done) | (simp [*]; done)), H', ⟨by first | omega | exact Nat.le_refl _⟩, ⟨by (with_reducible repeat (first | refine kN ?_ _ | refine kD ?_ | refine kA ?_ _)); exact BK118.out⟩, ⟨by repeat (first | (with_reducible first | exact HB.out | apply bA | apply bN | apply bD | refine bS ?_ GE118.out) | exact HB.out)⟩⟩
           ·
            replace c33 := Bool.eq_false_iff.mpr c33
            subst c33
            have H1 : (if a0_2 = 0 then (if t122 = true then (pascalineref02_Check.j0 k t119 false a0_0 a0_1 a0_2 a0_3 a0_4) else (pascalineref02_Check.j0 k t119 (a0_3 != 0) a0_0 a0_1 a0_2 a0_3 a0_4)) else (pascalineref02_Check.j0 k t119 true a0_0 a0_1 a0_2 a0_3 a0_4)) = some r := by rw [if_neg (show ¬ (false = true) by decide)] at H; exact H
            clear H
            have H := H1
            clear H1
            by_cases c37 : a0_2 = 0
            ·
             rw [if_pos c37] at H
             have c37b0 : (a0_2 == 0) = true := beq_iff_eq.mpr c37
             have c37b1 : (a0_2 != 0) = false := bR c37
             clear c37
             by_cases c38 : t122 = true
             ·
              subst c38
              have H1 : (pascalineref02_Check.j0 k t119 false a0_0 a0_1 a0_2 a0_3 a0_4) = some r := by rw [if_pos rfl] at H; exact H
              clear H
              have H := H1
              clear H1
              have H' := mK H
              clear H
              obtain ⟨hcz39_0, hcz39_1, hcz39_2, hcz39_3, hcz39_4, hfz39_0, hfz39_1, hfz39_2, hfz39_3, hfz39_4⟩ := cf5 BK118.out
              go_wp2
              go_meet
              case rel => exact ⟨_, (false), (by first | rfl | (simp; done) | (simp [*]; done)), H', ⟨by first | omega | exact Nat.le_refl _⟩, ⟨by (with_reducible repeat (first | refine kN ?_ _ | refine kD ?_ | refine kA ?_ _)); exact BK118.out⟩, ⟨by repeat (first | (with_reducible first | exact HB.out | apply bA | apply bN | apply bD | refine bS ?_ GE118.out) | exact HB.out)⟩⟩
             ·
              replace c38 := Bool.eq_false_iff.mpr c38
              subst c38
              have H1 : (pascalineref02_Check.j0 k t119 (a0_3 != 0) a0_0 a0_1 a0_2 a0_3 a0_4) = some r := by rw [if_neg (show ¬ (false = true) by decide)] at H; exact H
              clear H
              have H := H1
              clear H1
              have H' := mK H
              clear H
              obtain ⟨hcz40_0, hcz40_1, hcz40_2, hcz40_3, hcz40_4, hfz40_0, hfz40_1, hfz40_2, hfz40_3, hfz40_4⟩ := cf5 BK118.out
              go_wp2
              go_meet
              case rel => exact ⟨_, ((a0_3 != 0)), (by first | rfl | (simp; done) | (simp [*]; done)), H', ⟨by first | omega | exact Nat.le_refl _⟩, ⟨by (with_reducible repeat (first | refine kN ?_ _ | refine kD ?_ | refine kA ?_ _)); exact BK118.out⟩, ⟨by repeat (first | (with_reducible first | exact HB.out | apply bA | apply bN | apply bD | refine bS ?_ GE118.out) | exact HB.out)⟩⟩
            ·
             rw [if_neg c37] at H
             have c37b0 : (a0_2 == 0) = false := bQ c37
             have c37b1 : (a0_2 != 0) = true := bne_iff_ne.mpr c37
             have H' := mK H
             clear H
             obtain ⟨hcz41_0, hcz41_1, hcz41_2, hcz41_3, hcz41_4, hfz41_0, hfz41_1, hfz41_2, hfz41_3, hfz41_4⟩ := cf5 BK118.out
             go_wp2
             go_meet
             case rel => exact ⟨_, (true), (by first | rfl | (simp; done) | (simp [*]; done)), H', ⟨by first | omega | exact Nat.le_refl _⟩, ⟨by (with_reducible repeat (first | refine kN ?_ _ | refine kD ?_ | refine kA ?_ _)); exact BK118.out⟩, ⟨by repeat (first | (with_reducible first | exact HB.out | apply bA | apply bN | apply bD | refine bS ?_ GE118.out) | exact HB.out)⟩⟩
          ·
           rw [if_neg c32] at H
           have c32b0 : (a0_1 == 0) = false := bQ c32
           have c32b1 : (a0_1 != 0) = true := bne_iff_ne.mpr c32
           have H' := mK H
           clear H
           obtain ⟨hcz42_0, hcz42_1, hcz42_2, hcz42_3, hcz42_4, hfz42_0, hfz42_1, hfz42_2, hfz42_3, hfz42_4⟩ := cf5 BK118.out
           go_wp2
           go_meet
           case rel => exact ⟨_, (true), (by first | rfl | (simp; done) | (simp [*]; done)), H', ⟨by first | omega | exact Nat.le_refl _⟩, ⟨by (with_reducible repeat (first | refine kN ?_ _ | refine kD ?_ | refine kA ?_ _)); exact BK118.out⟩, ⟨by repeat (first | (with_reducible first | exact HB.out | apply bA | apply bN | apply bD | refine bS ?_ GE118.out) | exact HB.out)⟩⟩
  case rest =>
   clear HC7
   (try clear c3); (try clear c3b0); (try clear hcz9_0); (try clear hcz9_1); (try clear hcz9_2); (try clear hcz9_3); (try clear hcz9_4); (try clear hfz9_0); (try clear hfz9_1); (try clear hfz9_2); (try clear hfz9_3); (try clear hfz9_4)
   obtain ⟨kq, x74_6, rfl, HA, HJ6, BK118, HB⟩ := hcut
   cases kq with
   | zero => exact absurd HA.out (by simp [pascalineref02_Check.j0])
   | succ kj6 =>
    have H := HA.out
    clear HA
    simp only [pascalineref02_Check.j0] at H
    by_cases c43 : x74_6 = true
    ·
     subst c43
     have H1 : (some 20) = some r := by rw [if_pos rfl] at H; exact H
     clear H
     have H := H1
     clear H1
     obtain rfl := Option.some.inj H
     go_wp2
     go_ret
     exact ⟨by first | rfl | (simp [errW_none, errW_some] <;> rfl) | (simp [*, errW_none, errW_some] <;> rfl), by repeat (first | (with_reducible first | exact HB.out | apply bA | apply bN | apply bD | refine bS ?_ GE118.out) | exact HB.out)⟩
    ·
     replace c43 := Bool.eq_false_iff.mpr c43
     subst c43
     have H1 : (if t119 = 1 then (pascalineref02_Check.j1 kj6 0 0 t119 (t119 == 1) a0_0 a0_1 a0_2 a0_3 a0_4) else (pascalineref02_Check.j1 kj6 0 0 t119 (t119 == 3) a0_0 a0_1 a0_2 a0_3 a0_4)) = some r := by rw [if_neg (show ¬ (false = true) by decide)] at H; exact H
     clear H
     have H := H1
     clear H1
     have HC44 := mK H
     clear H
     go_upto_if 76 with (fail)
     go_cut [76] (fun v76 wc => ∃ (kq : Nat) (x76_43 : Bool), v76 = .bool x76_43 ∧ Aside0 (pascalineref02_Check.j1 kq 0 0 t119 x76_43 a0_0 a0_1 a0_2 a0_3 a0_4 = some r) ∧ Aside0 (kq ≤ kj6) ∧ Aside0 (wc.heap[gb118]? = some (o5 a0_0 a0_1 a0_2 a0_3 a0_4 31)) ∧ Aside0 (Below w.heap.size w wc))
     case first =>
      have H := HC44.out
      clear HC44
      by_cases c45 : t119 = 1
      ·
       rw [if_pos c45] at H
       have c45b0 : (t119 == 1) = true := beq_iff_eq.mpr c45
       have c45b1 : (t119 != 1) = false := bR c45
       clear c45
       (first | rw [c45b0] | (simp only [i64_w, i32_w]; rw [c45b0]) | skip)
       have H' := mK H
       clear H
       go_wp2
       go_meet
       case rel => exact ⟨_, ((t119 == 1)), (by first | rfl | (simp; done) | (simp [*]; done)), H', ⟨by have := HJ6.out; first | omega | exact Nat.le_refl _⟩, ⟨by (with_reducible repeat (first | refine kN ?_ _ | refine kD ?_ | refine kA ?_ _)); exact BK118.out⟩, ⟨by repeat (first | (with_reducible first | exact HB.out | apply bA | apply bN | apply bD | refine bS ?_ GE118.out) | exact HB.out)⟩⟩
      ·
       rw [if_neg c45] at H
       have c45b0 : (t119 == 1) = false := bQ c45
       have c45b1 : (t119 != 1) = true := bne_iff_ne.mpr c45
       (first | rw [c45b0] | (simp only [i64_w, i32_w]; rw [c45b0]) | skip)
       have H' := mK H
       clear H
       go_wp2
       go_meet
       case rel => exact ⟨_, ((t119 == 3)), (by first | rfl | (simp; done) | (simp [*]; done)), H', ⟨by have := HJ6.out; first | omega | exact Nat.le_refl _⟩, ⟨by (with_reducible repeat (first | refine kN ?_ _ | refine kD ?_ | refine kA ?_ _)); exact BK118.out⟩, ⟨by repeat (first | (with_reducible first | exact HB.out | apply bA | apply bN | apply bD | refine bS ?_ GE118.out) | exact HB.out)⟩⟩
     case rest =>
      clear HC44
      (try clear c3); (try clear c3b0); (try clear c43); (try clear hcz9_0); (try clear hcz9_1); (try clear hcz9_2); (try clear hcz9_3); (try clear hcz9_4); (try clear hfz9_0); (try clear hfz9_1); (try clear hfz9_2); (try clear hfz9_3); (try clear hfz9_4)
      obtain ⟨kq, x76_43, rfl, HA, HJ43, BK118, HB⟩ := hcut
      cases kq with
      | zero => exact absurd HA.out (by simp [pascalineref02_Check.j1])
      | succ kj43 =>
       have H := HA.out
       clear HA
       simp only [pascalineref02_Check.j1] at H
       by_cases c46 : x76_43 = true
       ·
        subst c46
        have H1 : (if a0_4 < (-32768) then (some 20) else (if a0_4 > 32767 then (some 20) else (some 0))) = some r := by rw [if_pos rfl] at H; exact H
        clear H
        have H := H1
        clear H1
        by_cases c47 : a0_4 < (-32768)
        ·
         rw [if_pos c47] at H
         have c47b0 : decide (a0_4 < (-32768)) = true := decide_eq_true c47
         clear c47
         obtain rfl := Option.some.inj H
         obtain ⟨hcz48_0, hcz48_1, hcz48_2, hcz48_3, hcz48_4, hfz48_0, hfz48_1, hfz48_2, hfz48_3, hfz48_4⟩ := cf5 BK118.out
         go_wp2
         go_ret
         exact ⟨by first | rfl | (simp [errW_none, errW_some] <;> rfl) | (simp [*, errW_none, errW_some] <;> rfl), by repeat (first | (with_reducible first | exact HB.out | apply bA | apply bN | apply bD | refine bS ?_ GE118.out) | exact HB.out)⟩
        ·
         rw [if_neg c47] at H
         have c47b0 : decide (a0_4 < (-32768)) = false := decide_eq_false c47
         clear c47
         by_cases c49 : a0_4 > 32767
         ·
          rw [if_pos c49] at H
          have c49b0 : decide (32767 < a0_4) = true := decide_eq_true c49
          clear c49
          obtain rfl := Option.some.inj H
          obtain ⟨hcz50_0, hcz50_1, hcz50_2, hcz50_3, hcz50_4, hfz50_0, hfz50_1, hfz50_2, hfz50_3, hfz50_4⟩ := cf5 BK118.out
          go_wp2
          go_ret
          exact ⟨by first | rfl | (simp [errW_none, errW_some] <;> rfl) | (simp [*, errW_none, errW_some] <;> rfl), by repeat (first | (with_reducible first | exact HB.out | apply bA | apply bN | apply bD | refine bS ?_ GE118.out) | exact HB.out)⟩
         ·
          rw [if_neg c49] at H
          have c49b0 : decide (32767 < a0_4) = false := decide_eq_false c49
          clear c49
          obtain rfl := Option.some.inj H
          obtain ⟨hcz51_0, hcz51_1, hcz51_2, hcz51_3, hcz51_4, hfz51_0, hfz51_1, hfz51_2, hfz51_3, hfz51_4⟩ := cf5 BK118.out
          go_wp2
          go_ret
          exact ⟨by first | rfl | (simp [errW_none, errW_some] <;> rfl) | (simp [*, errW_none, errW_some] <;> rfl), by repeat (first | (with_reducible first | exact HB.out | apply bA | apply bN | apply bD | refine bS ?_ GE118.out) | exact HB.out)⟩
       ·
        replace c46 := Bool.eq_false_iff.mpr c46
        subst c46
        have H1 : (if t119 = 2 then (pascalineref02_Check.j2 kj43 0 0 t119 (t119 == 2) a0_0 a0_1 a0_2 a0_3 a0_4) else (if t119 = 4 then (pascalineref02_Check.j2 kj43 0 0 t119 (t119 == 4) a0_0 a0_1 a0_2 a0_3 a0_4) else (pascalineref02_Check.j2 kj43 0 0 t119 (t119 == 8) a0_0 a0_1 a0_2 a0_3 a0_4))) = some r := by rw [if_neg (show ¬ (false = true) by decide)] at H; exact H
        clear H
        have H := H1
        clear H1
        have HC52 := mK H
        clear H
        go_upto_if 79 with (fail)
        go_cut [79] (fun v79 wc => ∃ (kq : Nat) (x79_51 : Bool), v79 = .bool x79_51 ∧ Aside0 (pascalineref02_Check.j2 kq 0 0 t119 x79_51 a0_0 a0_1 a0_2 a0_3 a0_4 = some r) ∧ Aside0 (kq ≤ kj43) ∧ Aside0 (wc.heap[gb118]? = some (o5 a0_0 a0_1 a0_2 a0_3 a0_4 31)) ∧ Aside0 (Below w.heap.size w wc))
        case first =>
         have H := HC52.out
         clear HC52
         by_cases c53 : t119 = 2
         ·
          rw [if_pos c53] at H
          have c53b0 : (t119 == 2) = true := beq_iff_eq.mpr c53
          have c53b1 : (t119 != 2) = false := bR c53
          clear c53
          (first | rw [c53b0] | (simp only [i64_w, i32_w]; rw [c53b0]) | skip)
          have H' := mK H
          clear H
          go_wp2
          go_meet
          case rel => exact ⟨_, ((t119 == 2)), (by first | rfl | (simp; done) | (simp [*]; done)), H', ⟨by have := HJ6.out; have := HJ43.out; first | omega | exact Nat.le_refl _⟩, ⟨by (with_reducible repeat (first | refine kN ?_ _ | refine kD ?_ | refine kA ?_ _)); exact BK118.out⟩, ⟨by repeat (first | (with_reducible first | exact HB.out | apply bA | apply bN | apply bD | refine bS ?_ GE118.out) | exact HB.out)⟩⟩
         ·
          rw [if_neg c53] at H
          have c53b0 : (t119 == 2) = false := bQ c53
          have c53b1 : (t119 != 2) = true := bne_iff_ne.mpr c53
          (first | rw [c53b0] | (simp only [i64_w, i32_w]; rw [c53b0]) | skip)
          by_cases c54 : t119 = 4
          ·
           rw [if_pos c54] at H
           have c54b0 : (t119 == 4) = true := beq_iff_eq.mpr c54
           have c54b1 : (t119 != 4) = false := bR c54
           clear c54
           have H' := mK H
           clear H
           go_wp2
           go_meet
           case rel => exact ⟨_, ((t119 == 4)), (by first | rfl | (simp; done) | (simp [*]; done)), H', ⟨by have := HJ6.out; have := HJ43.out; first | omega | exact Nat.le_refl _⟩, ⟨by (with_reducible repeat (first | refine kN ?_ _ | refine kD ?_ | refine kA ?_ _)); exact BK118.out⟩, ⟨by repeat (first | (with_reducible first | exact HB.out | apply bA | apply bN | apply bD | refine bS ?_ GE118.out) | exact HB.out)⟩⟩
          ·
           rw [if_neg c54] at H
           have c54b0 : (t119 == 4) = false := bQ c54
           have c54b1 : (t119 != 4) = true := bne_iff_ne.mpr c54
           have H' := mK H
           clear H
           go_wp2
           go_meet
           case rel => exact ⟨_, ((t119 == 8)), (by first | rfl | (simp; done) | (simp [*]; done)), H', ⟨by have := HJ6.out; have := HJ43.out; first | omega | exact Nat.le_refl _⟩, ⟨by (with_reducible repeat (first | refine kN ?_ _ | refine kD ?_ | refine kA ?_ _)); exact BK118.out⟩, ⟨by repeat (first | (with_reducible first | exact HB.out | apply bA | apply bN | apply bD | refine bS ?_ GE118.out) | exact HB.out)⟩⟩
        case rest =>
         clear HC52
         (try clear c3); (try clear c3b0); (try clear c43); (try clear c46); (try clear hcz9_0); (try clear hcz9_1); (try clear hcz9_2); (try clear hcz9_3); (try clear hcz9_4); (try clear hfz9_0); (try clear hfz9_1); (try clear hfz9_2); (try clear hfz9_3); (try clear hfz9_4)
         obtain ⟨kq, x79_51, rfl, HA, HJ51, BK118, HB⟩ := hcut
         cases kq with
         | zero => exact absurd HA.out (by simp [pascalineref02_Check.j2])
         | succ kj51 =>
          have H := HA.out
          clear HA
          simp only [pascalineref02_Check.j2] at H
          by_cases c55 : x79_51 = true
          ·
           subst c55
           have H1 : (if a0_4 < 0 then (some 20) else (if a0_4 > 65535 then (some 20) else (some 0))) = some r := by rw [if_pos rfl] at H; exact H
           clear H
           have H := H1
           clear H1
           by_cases c56 : a0_4 < 0
           ·
            rw [if_pos c56] at H
            have c56b0 : decide (a0_4 < 0) = true := decide_eq_true c56
            clear c56
            obtain rfl := Option.some.inj H
            obtain ⟨hcz57_0, hcz57_1, hcz57_2, hcz57_3, hcz57_4, hfz57_0, hfz57_1, hfz57_2, hfz57_3, hfz57_4⟩ := cf5 BK118.out
            go_wp2
            go_ret
            exact ⟨by first | rfl | (simp [errW_none, errW_some] <;> rfl) | (simp [*, errW_none, errW_some] <;> rfl), by repeat (first | (with_reducible first | exact HB.out | apply bA | apply bN | apply bD | refine bS ?_ GE118.out) | exact HB.out)⟩
           ·
            rw [if_neg c56] at H
            have c56b0 : decide (a0_4 < 0) = false := decide_eq_false c56
            clear c56
            by_cases c58 : a0_4 > 65535
            ·
             rw [if_pos c58] at H
             have c58b0 : decide (65535 < a0_4) = true := decide_eq_true c58
             clear c58
             obtain rfl := Option.some.inj H
             obtain ⟨hcz59_0, hcz59_1, hcz59_2, hcz59_3, hcz59_4, hfz59_0, hfz59_1, hfz59_2, hfz59_3, hfz59_4⟩ := cf5 BK118.out
             go_wp2
             go_ret
             exact ⟨by first | rfl | (simp [errW_none, errW_some] <;> rfl) | (simp [*, errW_none, errW_some] <;> rfl), by repeat (first | (with_reducible first | exact HB.out | apply bA | apply bN | apply bD | refine bS ?_ GE118.out) | exact HB.out)⟩
            ·
             rw [if_neg c58] at H
             have c58b0 : decide (65535 < a0_4) = false := decide_eq_false c58
             clear c58
             obtain rfl := Option.some.inj H
             obtain ⟨hcz60_0, hcz60_1, hcz60_2, hcz60_3, hcz60_4, hfz60_0, hfz60_1, hfz60_2, hfz60_3, hfz60_4⟩ := cf5 BK118.out
             go_wp2
             go_ret
             exact ⟨by first | rfl | (simp [errW_none, errW_some] <;> rfl) | (simp [*, errW_none, errW_some] <;> rfl), by repeat (first | (with_reducible first | exact HB.out | apply bA | apply bN | apply bD | refine bS ?_ GE118.out) | exact HB.out)⟩
          ·
           replace c55 := Bool.eq_false_iff.mpr c55
           subst c55
           have H1 : (if t119 = 7 then (if a0_4 < (-8388608) then (some 20) else (if a0_4 > 8388607 then (some 20) else (some 0))) else (if a0_4 < 0 then (some 20) else (if a0_4 > 0 then (some 20) else (some 0)))) = some r := by rw [if_neg (show ¬ (false = true) by decide)] at H; exact H
           clear H
           have H := H1
           clear H1
           by_cases c61 : t119 = 7
           ·
            rw [if_pos c61] at H
            have c61b0 : (t119 == 7) = true := beq_iff_eq.mpr c61
            have c61b1 : (t119 != 7) = false := bR c61
            clear c61
            by_cases c62 : a0_4 < (-8388608)
            ·
             rw [if_pos c62] at H
             have c62b0 : decide (a0_4 < (-8388608)) = true := decide_eq_true c62
             clear c62
             obtain rfl := Option.some.inj H
             obtain ⟨hcz63_0, hcz63_1, hcz63_2, hcz63_3, hcz63_4, hfz63_0, hfz63_1, hfz63_2, hfz63_3, hfz63_4⟩ := cf5 BK118.out
             go_wp2
             go_ret
             exact ⟨by first | rfl | (simp [errW_none, errW_some] <;> rfl) | (simp [*, errW_none, errW_some] <;> rfl), by repeat (first | (with_reducible first | exact HB.out | apply bA | apply bN | apply bD | refine bS ?_ GE118.out) | exact HB.out)⟩
            ·
             rw [if_neg c62] at H
             have c62b0 : decide (a0_4 < (-8388608)) = false := decide_eq_false c62
             clear c62
             by_cases c64 : a0_4 > 8388607
             ·
              rw [if_pos c64] at H
              have c64b0 : decide (8388607 < a0_4) = true := decide_eq_true c64
              clear c64
              obtain rfl := Option.some.inj H
              obtain ⟨hcz65_0, hcz65_1, hcz65_2, hcz65_3, hcz65_4, hfz65_0, hfz65_1, hfz65_2, hfz65_3, hfz65_4⟩ := cf5 BK118.out
              go_wp2
              go_ret
              exact ⟨by first | rfl | (simp [errW_none, errW_some] <;> rfl) | (simp [*, errW_none, errW_some] <;> rfl), by repeat (first | (with_reducible first | exact HB.out | apply bA | apply bN | apply bD | refine bS ?_ GE118.out) | exact HB.out)⟩
             ·
              rw [if_neg c64] at H
              have c64b0 : decide (8388607 < a0_4) = false := decide_eq_false c64
              clear c64
              obtain rfl := Option.some.inj H
              obtain ⟨hcz66_0, hcz66_1, hcz66_2, hcz66_3, hcz66_4, hfz66_0, hfz66_1, hfz66_2, hfz66_3, hfz66_4⟩ := cf5 BK118.out
              go_wp2
              go_ret
              exact ⟨by first | rfl | (simp [errW_none, errW_some] <;> rfl) | (simp [*, errW_none, errW_some] <;> rfl), by repeat (first | (with_reducible first | exact HB.out | apply bA | apply bN | apply bD | refine bS ?_ GE118.out) | exact HB.out)⟩
           ·
            rw [if_neg c61] at H
            have c61b0 : (t119 == 7) = false := bQ c61
            have c61b1 : (t119 != 7) = true := bne_iff_ne.mpr c61
            by_cases c67 : a0_4 < 0
            ·
             rw [if_pos c67] at H
             have c67b0 : decide (a0_4 < 0) = true := decide_eq_true c67
             clear c67
             obtain rfl := Option.some.inj H
             obtain ⟨hcz68_0, hcz68_1, hcz68_2, hcz68_3, hcz68_4, hfz68_0, hfz68_1, hfz68_2, hfz68_3, hfz68_4⟩ := cf5 BK118.out
             go_wp2
             go_ret
             exact ⟨by first | rfl | (simp [errW_none, errW_some] <;> rfl) | (simp [*, errW_none, errW_some] <;> rfl), by repeat (first | (with_reducible first | exact HB.out | apply bA | apply bN | apply bD | refine bS ?_ GE118.out) | exact HB.out)⟩
            ·
             rw [if_neg c67] at H
             have c67b0 : decide (a0_4 < 0) = false := decide_eq_false c67
             clear c67
             by_cases c69 : a0_4 > 0
             ·
              rw [if_pos c69] at H
              have c69b0 : decide (0 < a0_4) = true := decide_eq_true c69
              clear c69
              obtain rfl := Option.some.inj H
              obtain ⟨hcz70_0, hcz70_1, hcz70_2, hcz70_3, hcz70_4, hfz70_0, hfz70_1, hfz70_2, hfz70_3, hfz70_4⟩ := cf5 BK118.out
              go_wp2
              go_ret
              exact ⟨by first | rfl | (simp [errW_none, errW_some] <;> rfl) | (simp [*, errW_none, errW_some] <;> rfl), by repeat (first | (with_reducible first | exact HB.out | apply bA | apply bN | apply bD | refine bS ?_ GE118.out) | exact HB.out)⟩
             ·
              rw [if_neg c69] at H
              have c69b0 : decide (0 < a0_4) = false := decide_eq_false c69
              clear c69
              obtain rfl := Option.some.inj H
              obtain ⟨hcz71_0, hcz71_1, hcz71_2, hcz71_3, hcz71_4, hfz71_0, hfz71_1, hfz71_2, hfz71_3, hfz71_4⟩ := cf5 BK118.out
              go_wp2
              go_ret
              exact ⟨by first | rfl | (simp [errW_none, errW_some] <;> rfl) | (simp [*, errW_none, errW_some] <;> rfl), by repeat (first | (with_reducible first | exact HB.out | apply bA | apply bN | apply bD | refine bS ?_ GE118.out) | exact HB.out)⟩

end Go.Proofs.Ytmajngcgejkghaa.P

namespace Go.Proofs.Ytmajngcgejkghaa.P
open Go.RowKit Go.Proofs.YtmajngcgejkghaaW.PrintWords Go.Proofs.YtmajngcgejkghaaW.PrintLast Go.Proofs.YtmajngcgejkghaaW.PrintMore
attribute [local go_sem] max2_int min2_int max_two min_two max_three min_three max_four min_four   -- for this text's walks alone
set_option linter.unusedVariables false
set_option linter.unusedSimpArgs false

/-! ### pascalineref02_Encode: function 10 -/
def pascalineref02_Encode.f (k : Nat) (a0_0 : Int) (a0_1 : Int) (a0_2 : Int) (a0_3 : Int) (a0_4 : Int) : Option (Int × Int) := (pascalineref02_Check.f k a0_0 a0_1 a0_2 a0_3 a0_4).bind fun t124 => (if t124 = 0 then ((pascalineref02_Shape.f k a0_0).bind fun t125 => (if t125 = 7 then (some ((wrap64 ((wrap64 (a0_0 * 16777216)) + (Int.tmod (wrap64 (a0_4 + 16777216)) 16777216))) % 4294967296, 0)) else (some ((wrap64 ((wrap64 ((wrap64 ((wrap64 ((wrap64 (a0_0 * 16777216)) + (wrap64 (a0_1 * 1048576)))) + (wrap64 (a0_2 * 65536)))) + (Int.tmod (wrap64 (a0_4 + 65536)) 65536))) + a0_3)) % 4294967296, 0)))) else (some (0, t124)))
theorem pascalineref02_Encode.mono : ∀ a0 a1 a2 a3 a4 k, LeO (pascalineref02_Encode.f k a0 a1 a2 a3 a4) (pascalineref02_Encode.f (k + 1) a0 a1 a2 a3 a4) := by
 intro a0 a1 a2 a3 a4 k
 unfold pascalineref02_Encode.f
 repeat' first
  | (with_reducible exact pascalineref02_Check.mono _ _ _ _ _ _)
  | (with_reducible exact pascalineref02_Shape.mono _ _)
  | (with_reducible exact LeO.refl _)
  | (with_reducible exact LeO.none _)
  | (with_reducible refine LeO.ite ?_ ?_)
  | (with_reducible refine LeO.bind ?_ (fun _ => ?_))
  | exact LeO.none _
  | refine LeO.ite ?_ ?_
  | refine LeO.bind ?_ (fun _ => ?_)
set_option maxHeartbeats 8000000 in
set_option maxRecDepth 100000 in
theorem pascalineref02_Encode.calls (k : Nat) (a0_0 : Int) (a0_1 : Int) (a0_2 : Int) (a0_3 : Int) (a0_4 : Int) (r1 : Int) (r2 : Int) (w : World) (h : pascalineref02_Encode.f k a0_0 a0_1 a0_2 a0_3 a0_4 = some (r1, r2)) :
 Calls Try.prog 10 #[.agg #[.int .i64 a0_0, .int .i64 a0_1, .int .i64 a0_2, .int .i64 a0_3, .int .i64 a0_4]] w fun e w' => e = .returned (.tuple #[.int .u32 r1, .int .i64 r2]) ∧ Below w.heap.size w w' := by
 have hu31 := Try.underlying31
 have HB := mK (Below.refl w.heap.size w)
 have H : ((pascalineref02_Check.f k a0_0 a0_1 a0_2 a0_3 a0_4).bind fun t124 => (if t124 = 0 then ((pascalineref02_Shape.f k a0_0).bind fun t125 => (if t125 = 7 then (some ((wrap64 ((wrap64 (a0_0 * 16777216)) + (Int.tmod (wrap64 (a0_4 + 16777216)) 16777216))) % 4294967296, 0)) else (some ((wrap64 ((wrap64 ((wrap64 ((wrap64 ((wrap64 (a0_0 * 16777216)) + (wrap64 (a0_1 * 1048576)))) + (wrap64 (a0_2 * 65536)))) + (Int.tmod (wrap64 (a0_4 + 65536)) 65536))) + a0_3)) % 4294967296, 0)))) else (some (0, t124)))) = some (r1, r2) := h
 clear h
 replace H := oB H
 obtain ⟨t124, A20, H⟩ := H
 replace H : (if t124 = 0 then ((pascalineref02_Shape.f k a0_0).bind fun t125 => (if t125 = 7 then (some ((wrap64 ((wrap64 (a0_0 * 16777216)) + (Int.tmod (wrap64 (a0_4 + 16777216)) 16777216))) % 4294967296, 0)) else (some ((wrap64 ((wrap64 ((wrap64 ((wrap64 ((wrap64 (a0_0 * 16777216)) + (wrap64 (a0_1 * 1048576)))) + (wrap64 (a0_2 * 65536)))) + (Int.tmod (wrap64 (a0_4 + 65536)) 65536))) + a0_3)) % 4294967296, 0)))) else (some (0, t124))) = some (r1, r2) := H
 have A2 := mK A20
 clear A20
 by_cases c3 : t124 = 0
 ·
  rw [if_pos c3] at H
  have c3b0 : (t124 == 0) = true := beq_iff_eq.mpr c3
  have c3b1 : (t124 != 0) = false := bR c3
  clear c3
  replace H := oB H
  obtain ⟨t125, A40, H⟩ := H
  replace H : (if t125 = 7 then (some ((wrap64 ((wrap64 (a0_0 * 16777216)) + (Int.tmod (wrap64 (a0_4 + 16777216)) 16777216))) % 4294967296, 0)) else (some ((wrap64 ((wrap64 ((wrap64 ((wrap64 ((wrap64 (a0_0 * 16777216)) + (wrap64 (a0_1 * 1048576)))) + (wrap64 (a0_2 * 65536)))) + (Int.tmod (wrap64 (a0_4 + 65536)) 65536))) + a0_3)) % 4294967296, 0))) = some (r1, r2) := H
  have A4 := mK A40
  clear A40
  by_cases c5 : t125 = 7
  ·
   rw [if_pos c5] at H
   have c5b0 : (t125 == 7) = true := beq_iff_eq.mpr c5
   have c5b1 : (t125 != 7) = false := bR c5
   clear c5
   simp only [Option.some.injEq, Prod.mk.injEq] at H
   obtain ⟨rfl, rfl⟩ := H
   go_enter Try.func10, Try.ntmps10
   go_wp2_with (first | ((with_reducible refine gate_dst (N := 1) rfl ?_); refine box_event ?hg (N := 1) ?hd (cs := #[.int .i64 a0_0, .int .i64 a0_1, .int .i64 a0_2, .int .i64 a0_3, .int .i64 a0_4]) (t := 31) ?hr ?_; (case hd => rfl); (case hg => rfl); (case hr => first | (go_simp; done) | (go_simp; rfl)); intro gb123 hg w6 hbox hb; have n0_ := mK (bP (by repeat (first | (with_reducible first | exact HB.out | apply bA | apply bN | apply bD) | exact HB.out)) hb); have n1_ := mK (hbox); have n2_ := mK ((by rw [hg]; exact (bZ (by repeat (first | (with_reducible first | exact HB.out | apply bA | apply bN | apply bD) | exact HB.out))) : w.heap.size ≤ gb123)); have n3_ := mK ((by rw [hg]; exact (bZ (by repeat (first | (with_reducible first | exact HB.out | apply bA | apply bN | apply bD) | exact HB.out))) : w.heap.size ≤ gb123)); clear HB; have HB := n0_; have BK123 := n1_; have GW123 := n2_; have GE123 := n3_; clear n0_ n1_ n2_ n3_; clear hb hbox hg; obtain ⟨hcz7_0, hcz7_1, hcz7_2, hcz7_3, hcz7_4, hfz7_0, hfz7_1, hfz7_2, hfz7_3, hfz7_4⟩ := cf5 BK123.out) | ((with_reducible refine gate_callee (f := 25) rfl ?_); refine goesL_ (some 7) rfl rfl Try.func25 (by kernel_rfl) rfl #[.agg #[.int .i64 a0_0, .int .i64 a0_1, .int .i64 a0_2, .int .i64 a0_3, .int .i64 a0_4]] rfl (by (try simp only [List.map_toArray, List.map_cons, List.map_nil]); first | done | rfl) ?_; (with_reducible refine (pascalineref02_Check.calls k a0_0 a0_1 a0_2 a0_3 a0_4 t124 _ A2.out).mono ?_); rintro e w8 ⟨rfl, hb⟩; refine ⟨_, rfl, ?_⟩; have n0_ := mK (kB (g := gb123) (o := o5 a0_0 a0_1 a0_2 a0_3 a0_4 31) (by (with_reducible repeat (first | refine kN ?_ _ | refine kD ?_ | refine kA ?_ _)); exact BK123.out) hb); have n1_ := mK (bP (by repeat (first | (with_reducible first | exact HB.out | apply bA | apply bN | apply bD | refine bS ?_ GE123.out) | exact HB.out)) hb); clear BK123; clear HB; have BK123 := n0_; have HB := n1_; clear n0_ n1_; (try clear hb); obtain ⟨hcz9_0, hcz9_1, hcz9_2, hcz9_3, hcz9_4, hfz9_0, hfz9_1, hfz9_2, hfz9_3, hfz9_4⟩ := cf5 BK123.out) | ((with_reducible refine gate_callee (f := 14) rfl ?_); refine goesL_ (some 16) rfl rfl Try.func14 (by kernel_rfl) rfl #[.int .i64 a0_0] rfl (by (try simp only [List.map_toArray, List.map_cons, List.map_nil]); first | done | rfl) ?_; (with_reducible refine (pascalineref02_Shape.calls k a0_0 t125 _ A4.out).mono ?_); rintro e w' ⟨rfl, ⟨nd, rfl⟩⟩; refine ⟨_, rfl, ?_⟩))
   go_ret2
   exact ⟨by first | rfl | (simp [errW_none, errW_some] <;> rfl) | (simp [*, errW_none, errW_some] <;> rfl), by repeat (first | (with_reducible first | exact HB.out | apply bA | apply bN | apply bD | refine bS ?_ GE123.out) | exact HB.out)⟩
  ·
   rw [if_neg c5] at H
   have c5b0 : (t125 == 7) = false := bQ c5
   have c5b1 : (t125 != 7) = true := bne_iff_ne.mpr c5
   simp only [Option.some.injEq, Prod.mk.injEq] at H
   obtain ⟨rfl, rfl⟩ := H
   go_enter Try.func10, Try.ntmps10
   go_wp2_with (first | ((with_reducible refine gate_dst (N := 1) rfl ?_); refine box_event ?hg (N := 1) ?hd (cs := #[.int .i64 a0_0, .int .i64 a0_1, .int .i64 a0_2, .int .i64 a0_3, .int .i64 a0_4]) (t := 31) ?hr ?_; (case hd => rfl); (case hg => rfl); (case hr => first | (go_simp; done) | (go_simp; rfl)); intro gb123 hg w10 hbox hb; have n0_ := mK (bP (by repeat (first | (with_reducible first | exact HB.out | apply bA | apply bN | apply bD) | exact HB.out)) hb); have n1_ := mK (hbox); have n2_ := mK ((by rw [hg]; exact (bZ (by repeat (first | (with_reducible first | exact HB.out | apply bA | apply bN | apply bD) | exact HB.out))) : w.heap.size ≤ gb123)); have n3_ := mK ((by rw [hg]; exact (bZ (by repeat (first | (with_reducible first | exact HB.out | apply bA | apply bN | apply bD) | exact HB.out))) : w.heap.size ≤ gb123)); clear HB; have HB := n0_; have BK123 := n1_; have GW123 := n2_; have GE123 := n3_; clear n0_ n1_ n2_ n3_; clear hb hbox hg; obtain ⟨hcz11_0, hcz11_1, hcz11_2, hcz11_3, hcz11_4, hfz11_0, hfz11_1, hfz11_2, hfz11_3, hfz11_4⟩ := cf5 BK123.out) | ((with_reducible refine gate_callee (f := 25) rfl ?_); refine goesL_ (some 7) rfl rfl Try.func25 (by kernel_rfl) rfl #[.agg #[.int .i64 a0_0, .int .i64 a0_1, .int .i64 a0_2, .int .i64 a0_3, .int .i64 a0_4]] rfl (by (try simp only [List.map_toArray, List.map_cons, List.map_nil]); first | done | rfl) ?_; (with_reducible refine (pascalineref02_Check.calls k a0_0 a0_1 a0_2 a0_3 a0_4 t124 _ A2.out).mono ?_); rintro e w12 ⟨rfl, hb⟩; refine ⟨_, rfl, ?_⟩; have n0_ := mK (kB (g := gb123) (o := o5 a0_0 a0_1 a0_2 a0_3 a0_4 31) (by (with_reducible repeat (first | refine kN ?_ _ | refine kD ?_ | refine kA ?_ _)); exact BK123.out) hb); have n1_ := mK (bP (by repeat (first | (with_reducible first | exact HB.out | apply bA | apply bN | apply bD | refine bS ?_ GE123.out) | exact HB.out)) hb); clear BK123; clear HB; have BK123 := n0_; have HB := n1_; clear n0_ n1_; (try clear hb); obtain ⟨hcz13_0, hcz13_1, hcz13_2, hcz13_3, hcz13_4, hfz13_0, hfz13_1, hfz13_2, hfz13_3, hfz13_4⟩ := cf5 BK123.out) | ((with_reducible refine gate_callee (f := 14) rfl ?_); refine goesL_ (some 16) rfl rfl Try.func14 (by kernel_rfl) rfl #[.int .i64 a0_0] rfl (by (try simp only [List.map_toArray, List.map_cons, List.map_nil]); first | done | rfl) ?_; (with_reducible refine (pascalineref02_Shape.calls k a0_0 t125 _ A4.out).mono ?_); rintro e w' ⟨rfl, ⟨nd, rfl⟩⟩; refine ⟨_, rfl, ?_⟩))
   go_ret2
   exact ⟨by first | rfl | (simp [errW_none, errW_some] <;> rfl) | (simp [*, errW_none, errW_some] <;> rfl), by repeat (first | (with_reducible first | exact HB.out | apply bA | apply bN | apply bD | refine bS ?_ GE123.out) | exact HB.out)⟩
 ·
  rw [if_neg c3] at H
  have c3b0 : (t124 == 0) = false := bQ c3
  have c3b1 : (t124 != 0) = true := bne_iff_ne.mpr c3
  simp only [Option.some.injEq, Prod.mk.injEq] at H
  obtain ⟨rfl, rfl⟩ := H
  go_enter Try.func10, Try.ntmps10
  go_wp2_with (first | ((with_reducible refine gate_dst (N := 1) rfl ?_); refine box_event ?hg (N := 1) ?hd (cs := #[.int .i64 a0_0, .int .i64 a0_1, .int .i64 a0_2, .int .i64 a0_3, .int .i64 a0_4]) (t := 31) ?hr ?_; (case hd => rfl); (case hg => rfl); (case hr => first | (go_simp; done) | (go_simp; rfl)); intro gb123 hg w14 hbox hb; have n0_ := mK (bP (by repeat (first | (with_reducible first | exact HB.out | apply bA | apply bN | apply bD) | exact HB.out)) hb); have n1_ := mK (hbox); have n2_ := mK ((by rw [hg]; exact (bZ (by repeat (first | (with_reducible first | exact HB.out | apply bA | apply bN | apply bD) | exact HB.out))) : w.heap.size ≤ gb123)); have n3_ := mK ((by rw [hg]; exact (bZ (by repeat (first | (with_reducible first | exact HB.out | apply bA | apply bN | apply bD) | exact HB.out))) : w.heap.size ≤ gb123)); clear HB; have HB := n0_; have BK123 := n1_; have GW123 := n2_; have GE123 := n3_; clear n0_ n1_ n2_ n3_; clear hb hbox hg; obtain ⟨hcz15_0, hcz15_1, hcz15_2, hcz15_3, hcz15_4, hfz15_0, hfz15_1, hfz15_2, hfz15_3, hfz15_4⟩ := cf5 BK123.out) | ((with_reducible refine gate_callee (f := 25) rfl ?_); refine goesL_ (some 7) rfl rfl Try.func25 (by kernel_rfl) rfl #[.agg #[.int .i64 a0_0, .int .i64 a0_1, .int .i64 a0_2, .int .i64 a0_3, .int .i64 a0_4]] rfl (by (try simp only [List.map_toArray, List.map_cons, List.map_nil]); first | done | rfl) ?_; (with_reducible refine (pascalineref02_Check.calls k a0_0 a0_1 a0_2 a0_3 a0_4 t124 _ A2.out).mono ?_); rintro e w16 ⟨rfl, hb⟩; refine ⟨_, rfl, ?_⟩; have n0_ := mK (kB (g := gb123) (o := o5 a0_0 a0_1 a0_2 a0_3 a0_4 31) (by (with_reducible repeat (first | refine kN ?_ _ | refine kD ?_ | refine kA ?_ _)); exact BK123.out) hb); have n1_ := mK (bP (by repeat (first | (with_reducible first | exact HB.out | apply bA | apply bN | apply bD | refine bS ?_ GE123.out) | exact HB.out)) hb); clear BK123; clear HB; have BK123 := n0_; have HB := n1_; clear n0_ n1_; (try clear hb)))
  go_ret2
  exact ⟨by first | rfl | (simp [errW_none, errW_some] <;> rfl) | (simp [*, errW_none, errW_some] <;> rfl), by repeat (first | (with_reducible first | exact HB.out | apply bA | apply bN | apply bD | refine bS ?_ GE123.out) | exact HB.out)⟩

end Go.Proofs.Ytmajngcgejkghaa.P

namespace Go.Proofs.Ytmajngcgejkghaa.P
open Go.RowKit Go.Proofs.YtmajngcgejkghaaW.PrintWords Go.Proofs.YtmajngcgejkghaaW.PrintLast Go.Proofs.YtmajngcgejkghaaW.PrintMore
attribute [local go_sem] max2_int min2_int max_two min_two max_three min_three max_four min_four   -- for this text's walks alone
set_option linter.unusedVariables false
set_option linter.unusedSimpArgs false

/-! ### pascalinelaw02_Ref: function 11 -/
def pascalinelaw02_Ref.f (a0_0 : Int) (a0_1 : Int) (a0_2 : Int) (a0_3 : Int) (a0_4 : Int) : Option (Int × Int × Int × Int × Int) := some (a0_0, a0_1, a0_2, a0_3, a0_4)
set_option maxHeartbeats 8000000 in
set_option maxRecDepth 100000 in
theorem pascalinelaw02_Ref.calls (a0_0 : Int) (a0_1 : Int) (a0_2 : Int) (a0_3 : Int) (a0_4 : Int) (r1 : Int) (r2 : Int) (r3 : Int) (r4 : Int) (r5 : Int) (w : World) (h : pascalinelaw02_Ref.f a0_0 a0_1 a0_2 a0_3 a0_4 = some (r1, r2, r3, r4, r5)) :
 Calls Try.prog 11 #[.agg #[.int .i64 a0_0, .int .i64 a0_1, .int .i64 a0_2, .int .i64 a0_3, .int .i64 a0_4]] w fun e w' => e = .returned (.agg #[.int .i64 r1, .int .i64 r2, .int .i64 r3, .int .i64 r4, .int .i64 r5]) ∧ Below w.heap.size w w' := by
 have hu23 := Try.underlying23
 have hu31 := Try.underlying31
 have HB := mK (Below.refl w.heap.size w)
 have H : (some (a0_0, a0_1, a0_2, a0_3, a0_4)) = some (r1, r2, r3, r4, r5) := h
 clear h
 simp only [Option.some.injEq, Prod.mk.injEq] at H
 obtain ⟨rfl, rfl, rfl, rfl, rfl⟩ := H
 go_enter Try.func11, Try.ntmps11
 go_wp2_with (first | ((with_reducible refine gate_dst (N := 1) rfl ?_); refine box_event ?hg (N := 1) ?hd (cs := #[.int .i64 a0_0, .int .i64 a0_1, .int .i64 a0_2, .int .i64 a0_3, .int .i64 a0_4]) (t := 23) ?hr ?_; (case hd => rfl); (case hg => rfl); (case hr => first | (go_simp; done) | (go_simp; rfl)); intro gb126 hg w2 hbox hb; have n0_ := mK (bP (by repeat (first | (with_reducible first | exact HB.out | apply bA | apply bN | apply bD) | exact HB.out)) hb); have n1_ := mK (hbox); have n2_ := mK ((by rw [hg]; exact (bZ (by repeat (first | (with_reducible first | exact HB.out | apply bA | apply bN | apply bD) | exact HB.out))) : w.heap.size ≤ gb126)); have n3_ := mK ((by rw [hg]; exact (bZ (by repeat (first | (with_reducible first | exact HB.out | apply bA | apply bN | apply bD) | exact HB.out))) : w.heap.size ≤ gb126)); clear HB; have HB := n0_; have BK126 := n1_; have GW126 := n2_; have GE126 := n3_; clear n0_ n1_ n2_ n3_; clear hb hbox hg) | ((with_reducible refine gate_dst (N := 2) rfl ?_); refine box_event ?hg (N := 2) ?hd (cs := #[.int .i64 0, .int .i64 0, .int .i64 0, .int .i64 0, .int .i64 0]) (t := 31) ?hr ?_; (case hd => rfl); (case hg => rfl); (case hr => first | (go_simp; done) | (go_simp; rfl)); intro gb127 hg w3 hbox hb; have n0_ := mK (kB (g := gb126) (o := o5 a0_0 a0_1 a0_2 a0_3 a0_4 23) (by (with_reducible repeat (first | refine kN ?_ _ | refine kD ?_ | refine kA ?_ _)); exact BK126.out) hb); have n1_ := mK (bP (by repeat (first | (with_reducible first | exact HB.out | apply bA | apply bN | apply bD | refine bS ?_ GE126.out) | exact HB.out)) hb); have n2_ := mK (hbox); have n3_ := mK ((by rw [hg]; exact (bZ (by repeat (first | (with_reducible first | exact HB.out | apply bA | apply bN | apply bD | refine bS ?_ GE126.out) | exact HB.out))) : w.heap.size ≤ gb127)); have n4_ := mK ((by rw [hg]; exact (bZ (by repeat (first | (with_reducible first | exact HB.out | apply bA | apply bN | apply bD | refine bS ?_ GE126.out) | exact HB.out))) : w.heap.size ≤ gb127)); have n5_ := mK ((by rw [hg]; exact Nat.ne_of_lt (blk_lt (g := gb126) (o := o5 a0_0 a0_1 a0_2 a0_3 a0_4 23) (by (with_reducible repeat (first | refine kN ?_ _ | refine kD ?_ | refine kA ?_ _)); exact BK126.out)) : gb126 ≠ gb127)); have n6_ := mK ((by rw [hg]; exact Nat.ne_of_gt (blk_lt (g := gb126) (o := o5 a0_0 a0_1 a0_2 a0_3 a0_4 23) (by (with_reducible repeat (first | refine kN ?_ _ | refine kD ?_ | refine kA ?_ _)); exact BK126.out)) : gb127 ≠ gb126)); clear BK126; clear HB; have BK126 := n0_; have HB := n1_; have BK127 := n2_; have GW127 := n3_; have GE127 := n4_; have NB126_127 := n5_; have NB127_126 := n6_; clear n0_ n1_ n2_ n3_ n4_ n5_ n6_; clear hb hbox hg; have hnb4 := NB126_127.out; have hnc4 := NB127_126.out; obtain ⟨hcz5_0, hcz5_1, hcz5_2, hcz5_3, hcz5_4, hfz5_0, hfz5_1, hfz5_2, hfz5_3, hfz5_4⟩ := cf5 BK126.out; obtain ⟨hcz6_0, hcz6_1, hcz6_2, hcz6_3, hcz6_4, hfz6_0, hfz6_1, hfz6_2, hfz6_3, hfz6_4⟩ := cf5 BK127.out))
 refine bodyPost_ret (results_cell_row rfl _ _ gb127 31 #[.int .i64 a0_0, .int .i64 a0_1, .int .i64 a0_2, .int .i64 a0_3, .int .i64 a0_4] (0, 0) _ rfl (by (with_reducible repeat (first | refine kN ?_ _ | refine kD ?_ | refine kA ?_ _)); refine kP (cs := #[.int .i64 a0_0, .int .i64 a0_1, .int .i64 a0_2, .int .i64 a0_3, .int .i64 0]) ?_ 4 _ rfl; (with_reducible repeat (first | refine kN ?_ _ | refine kD ?_ | refine kA ?_ _)); refine kP (cs := #[.int .i64 a0_0, .int .i64 a0_1, .int .i64 a0_2, .int .i64 0, .int .i64 0]) ?_ 3 _ rfl; (with_reducible repeat (first | refine kN ?_ _ | refine kD ?_ | refine kA ?_ _)); refine kP (cs := #[.int .i64 a0_0, .int .i64 a0_1, .int .i64 0, .int .i64 0, .int .i64 0]) ?_ 2 _ rfl; (with_reducible repeat (first | refine kN ?_ _ | refine kD ?_ | refine kA ?_ _)); refine kP (cs := #[.int .i64 a0_0, .int .i64 0, .int .i64 0, .int .i64 0, .int .i64 0]) ?_ 1 _ rfl; (with_reducible repeat (first | refine kN ?_ _ | refine kD ?_ | refine kA ?_ _)); refine kP (cs := #[.int .i64 0, .int .i64 0, .int .i64 0, .int .i64 0, .int .i64 0]) ?_ 0 _ rfl; (with_reducible repeat (first | refine kN ?_ _ | refine kD ?_ | refine kA ?_ _)); exact BK127.out) Try.underlying31 rfl (by kernel_rfl)) rfl ?_
 exact ⟨by first | rfl | (simp [errW_none, errW_some] <;> rfl) | (simp [*, errW_none, errW_some] <;> rfl), by repeat (first | (with_reducible first | exact HB.out | apply bA | apply bN | apply bD | refine bS ?_ GE126.out | refine bS ?_ GE127.out) | exact HB.out)⟩

end Go.Proofs.Ytmajngcgejkghaa.P

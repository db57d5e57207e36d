import Derived.Test.YtmajngcgejkghaaPx0
import Derived.Test.YtmajngcgejkghaaCCf
import Derived.Test.YtmajngcgejkghaaPx1
import Derived.Test.YtmajngcgejkghaaPx13
import Derived.Test.YtmajngcgejkghaaPx30
import Derived.Test.YtmajngcgejkghaaPx38
import Derived.Test.YtmajngcgejkghaaPx42
namespace Go.Proofs.Ytmajngcgejkghaa.P
open Go.RowKit Go.Proofs.YtmajngcgejkghaaW.PrintWords Go.Proofs.YtmajngcgejkghaaW.PrintLast Go.Proofs.YtmajngcgejkghaaW.PrintMore
attribute [local go_sem] max2_int min2_int max_two min_two max_three min_three max_four min_four   -- for this text's walks alone
set_option linter.unusedVariables false
set_option linter.unusedSimpArgs false

attribute [local go_sem high] eqA23 eqA31
/-! ### pascalinelaw02_InstrTexts: function 7 -/
mutual
def pascalinelaw02_InstrTexts.j0 : Nat → Int → List ByteArray → Int → Bool → Int → Int → Int → Int → Int → Option (Bool)
 | 0, _, _, _, _, _, _, _, _, _ => none
 | k + 1, x1, x2, x8, x40, x313000, x313001, x313002, x313003, x313004 => if x40 = true then (some false) else ((instr_Fill.f k x1 x2).bind fun bt323 => ((pascalineref02_Fill.f k x1 x2).bind fun bt330 => (if (bt323.2.2.2.2.2 != bt330.2.2.2.2.2) = true then (pascalinelaw02_InstrTexts.j1 k x8 true x313000 x313001 x313002 x313003 x313004) else (if bt323.2.2.2.2.2 = true then ((pascalinelaw02_Ref.f bt323.1 bt323.2.1 bt323.2.2.1 bt323.2.2.2.1 bt323.2.2.2.2.1).bind fun bt337 => (pascalinelaw02_InstrTexts.j1 k x8 (!(bt337.1 == bt330.1) || (!(bt337.2.1 == bt330.2.1) || (!(bt337.2.2.1 == bt330.2.2.1) || (!(bt337.2.2.2.1 == bt330.2.2.2.1) || (!(bt337.2.2.2.2 == bt330.2.2.2.2.1)))))) x313000 x313001 x313002 x313003 x313004)) else (pascalinelaw02_InstrTexts.j1 k x8 false x313000 x313001 x313002 x313003 x313004)))))
def pascalinelaw02_InstrTexts.j1 : Nat → Int → Bool → Int → Int → Int → Int → Int → Option (Bool)
 | 0, _, _, _, _, _, _, _ => none
 | k + 1, x8, x64, x313000, x313001, x313002, x313003, x313004 => if x64 = true then (some false) else (if x8 = 0 then ((pascalinelaw02_Ref.f x313000 x313001 x313002 x313003 x313004).bind fun bt342 => ((pascalineref02_Fields.f k bt342.1 bt342.2.1 bt342.2.2.1 bt342.2.2.2.1 bt342.2.2.2.2).bind fun t347 => ((instr_Fill.f k x313000 t347).bind fun bt350 => (if bt350.2.2.2.2.2 = true then (some (bt350.1 == x313000 && (bt350.2.1 == x313001 && (bt350.2.2.1 == x313002 && (bt350.2.2.2.1 == x313003 && (bt350.2.2.2.2.1 == x313004)))))) else (some false))))) else (some true))
end
def pascalinelaw02_InstrTexts.f (k : Nat) (a0_0 : Int) (a0_1 : Int) (a0_2 : Int) (a0_3 : Int) (a0_4 : Int) (a1 : Int) (l2 : List ByteArray) : Option (Bool) := (pascalinelaw02_awake.f k).bind fun t313 => (if t313 = true then (if (l2.length : Int) > 20 then (some true) else ((instr_Text.f k a0_0 a0_1 a0_2 a0_3 a0_4).bind fun bt314 => ((pascalinelaw02_Ref.f a0_0 a0_1 a0_2 a0_3 a0_4).bind fun bt316 => ((pascalineref02_Text.f k bt316.1 bt316.2.1 bt316.2.2.1 bt316.2.2.2.1 bt316.2.2.2.2).bind fun bt321 => (if bt314.1.toList = bt321.1.toList then (pascalinelaw02_InstrTexts.j0 k a1 l2 bt314.2 (bt314.2 != bt321.2) a0_0 a0_1 a0_2 a0_3 a0_4) else (pascalinelaw02_InstrTexts.j0 k a1 l2 bt314.2 true a0_0 a0_1 a0_2 a0_3 a0_4)))))) else (some false))
theorem pascalinelaw02_InstrTexts.mono_l : ∀ k, (∀ y0 y1 y2 y3 y4 y5 y6 y7 y8, LeO (pascalinelaw02_InstrTexts.j0 k y0 y1 y2 y3 y4 y5 y6 y7 y8) (pascalinelaw02_InstrTexts.j0 (k + 1) y0 y1 y2 y3 y4 y5 y6 y7 y8)) ∧ (∀ y0 y1 y2 y3 y4 y5 y6, LeO (pascalinelaw02_InstrTexts.j1 k y0 y1 y2 y3 y4 y5 y6) (pascalinelaw02_InstrTexts.j1 (k + 1) y0 y1 y2 y3 y4 y5 y6))
 | 0 => ⟨fun _ _ _ _ _ _ _ _ _ r h => by simp [pascalinelaw02_InstrTexts.j0] at h, fun _ _ _ _ _ _ _ r h => by simp [pascalinelaw02_InstrTexts.j1] at h⟩
 | k + 1 => by
  obtain ⟨ih0, ih1⟩ := pascalinelaw02_InstrTexts.mono_l k
  refine ⟨?_, ?_⟩
  ·
   intro y0 y1 y2 y3 y4 y5 y6 y7 y8
   unfold pascalinelaw02_InstrTexts.j0
   repeat' first
   | (with_reducible exact ih0 _ _ _ _ _ _ _ _ _)
   | (with_reducible exact ih1 _ _ _ _ _ _ _)
   | (with_reducible exact instr_Fill.mono _ _ _)
   | (with_reducible exact instr_Text.mono _ _ _ _ _ _)
   | (with_reducible exact pascalinelaw02_awake.mono _)
   | (with_reducible exact pascalineref02_Fields.mono _ _ _ _ _ _)
   | (with_reducible exact pascalineref02_Fill.mono _ _ _)
   | (with_reducible exact pascalineref02_Text.mono _ _ _ _ _ _)
   | (with_reducible exact LeO.refl _)
   | (with_reducible exact LeO.none _)
   | (with_reducible refine LeO.ite ?_ ?_)
   | (with_reducible refine LeO.bind ?_ (fun _ => ?_))
   | exact LeO.none _
   | refine LeO.ite ?_ ?_
   | refine LeO.bind ?_ (fun _ => ?_)
  ·
   intro y0 y1 y2 y3 y4 y5 y6
   unfold pascalinelaw02_InstrTexts.j1
   repeat' first
   | (with_reducible exact ih0 _ _ _ _ _ _ _ _ _)
   | (with_reducible exact ih1 _ _ _ _ _ _ _)
   | (with_reducible exact instr_Fill.mono _ _ _)
   | (with_reducible exact instr_Text.mono _ _ _ _ _ _)
   | (with_reducible exact pascalinelaw02_awake.mono _)
   | (with_reducible exact pascalineref02_Fields.mono _ _ _ _ _ _)
   | (with_reducible exact pascalineref02_Fill.mono _ _ _)
   | (with_reducible exact pascalineref02_Text.mono _ _ _ _ _ _)
   | (with_reducible exact LeO.refl _)
   | (with_reducible exact LeO.none _)
   | (with_reducible refine LeO.ite ?_ ?_)
   | (with_reducible refine LeO.bind ?_ (fun _ => ?_))
   | exact LeO.none _
   | refine LeO.ite ?_ ?_
   | refine LeO.bind ?_ (fun _ => ?_)
theorem pascalinelaw02_InstrTexts.mono : ∀ a0 a1 a2 a3 a4 a5 a6 k, LeO (pascalinelaw02_InstrTexts.f k a0 a1 a2 a3 a4 a5 a6) (pascalinelaw02_InstrTexts.f (k + 1) a0 a1 a2 a3 a4 a5 a6) := by
 intro a0 a1 a2 a3 a4 a5 a6 k
 obtain ⟨ih0, ih1⟩ := pascalinelaw02_InstrTexts.mono_l k
 unfold pascalinelaw02_InstrTexts.f
 repeat' first
  | (with_reducible exact ih0 _ _ _ _ _ _ _ _ _)
  | (with_reducible exact ih1 _ _ _ _ _ _ _)
  | (with_reducible exact instr_Fill.mono _ _ _)
  | (with_reducible exact instr_Text.mono _ _ _ _ _ _)
  | (with_reducible exact pascalinelaw02_awake.mono _)
  | (with_reducible exact pascalineref02_Fields.mono _ _ _ _ _ _)
  | (with_reducible exact pascalineref02_Fill.mono _ _ _)
  | (with_reducible exact pascalineref02_Text.mono _ _ _ _ _ _)
  | (with_reducible exact LeO.refl _)
  | (with_reducible exact LeO.none _)
  | (with_reducible refine LeO.ite ?_ ?_)
  | (with_reducible refine LeO.bind ?_ (fun _ => ?_))
  | exact LeO.none _
  | refine LeO.ite ?_ ?_
  | refine LeO.bind ?_ (fun _ => ?_)
def pascalinelaw02_InstrTexts.T11 : Bool × List (List Nat × List Nat) := (true, [([], []), ([], []), ([0, 1], [0, 1]), ([2], [2]), ([3], [3]), ([4, 3, 3], [3, 4]), ([5], [5]), ([6, 5, 5], [5, 6]), ([5], [5]), ([7, 8, 5], [5, 7, 8]), ([5, 9, 3], [3, 5, 9]), ([3, 10], [3, 10])])
def pascalinelaw02_InstrTexts.B11 : List Nat := [0, 0, 3, 7, 15, 31, 63, 127, 63, 511, 1023, 2047]
theorem pascalinelaw02_InstrTexts.tab11 : rtab .any (opsOf Try.f7 11) = pascalinelaw02_InstrTexts.T11 := by kernel_rfl
theorem pascalinelaw02_InstrTexts.bits11 : waitsOk pascalinelaw02_InstrTexts.T11.2 pascalinelaw02_InstrTexts.B11 = true := by kernel_rfl
def pascalinelaw02_InstrTexts.T15 : Bool × List (List Nat × List Nat) := (true, [([], []), ([0], [0]), ([], []), ([2], [2]), ([3, 3], [3]), ([1, 4, 4], [1, 4]), ([5], [5]), ([6], [6]), ([6], [6]), ([], []), ([9, 7, 5, 0, 1, 2, 3, 4, 5, 6, 7, 9], [7, 9]), ([8, 10, 0, 1, 2, 3, 4, 5, 6, 7, 8, 9, 10], [8])])
def pascalinelaw02_InstrTexts.B15 : List Nat := [0, 1, 0, 4, 12, 31, 63, 127, 127, 0, 767, 2047]
theorem pascalinelaw02_InstrTexts.tab15 : rtab .any (opsOf Try.f7 15) = pascalinelaw02_InstrTexts.T15 := by kernel_rfl
theorem pascalinelaw02_InstrTexts.bits15 : waitsOk pascalinelaw02_InstrTexts.T15.2 pascalinelaw02_InstrTexts.B15 = true := by kernel_rfl
set_option maxHeartbeats 8000000 in
set_option maxRecDepth 100000 in
theorem pascalinelaw02_InstrTexts.calls (k : Nat) (a0_0 : Int) (a0_1 : Int) (a0_2 : Int) (a0_3 : Int) (a0_4 : Int) (a1 : Int) (A2 : Option Addr) (c2 : Nat) (l2 : List ByteArray) (r : Bool) (w : World) (hr2 : Kd.C Kd.string w A2 l2.length l2) (hc2 : l2.length ≤ c2) (h : pascalinelaw02_InstrTexts.f k a0_0 a0_1 a0_2 a0_3 a0_4 a1 l2 = some r) :
 Calls Try.prog 7 #[.agg #[.int .i64 a0_0, .int .i64 a0_1, .int .i64 a0_2, .int .i64 a0_3, .int .i64 a0_4], .int .i64 a1, .slice A2 l2.length c2] w fun e w' => e = .returned (.bool r) ∧ Below w.heap.size w w' := by
 have hu23 := Try.underlying23
 have hu31 := Try.underlying31
 have HR2 := mK hr2
 have HC2 := mK hc2
 clear hr2 hc2
 have HB := mK (Below.refl w.heap.size w)
 have H : ((pascalinelaw02_awake.f k).bind fun t313 => (if t313 = true then (if (l2.length : Int) > 20 then (some true) else ((instr_Text.f k a0_0 a0_1 a0_2 a0_3 a0_4).bind fun bt314 => ((pascalinelaw02_Ref.f a0_0 a0_1 a0_2 a0_3 a0_4).bind fun bt316 => ((pascalineref02_Text.f k bt316.1 bt316.2.1 bt316.2.2.1 bt316.2.2.2.1 bt316.2.2.2.2).bind fun bt321 => (if bt314.1.toList = bt321.1.toList then (pascalinelaw02_InstrTexts.j0 k a1 l2 bt314.2 (bt314.2 != bt321.2) a0_0 a0_1 a0_2 a0_3 a0_4) else (pascalinelaw02_InstrTexts.j0 k a1 l2 bt314.2 true a0_0 a0_1 a0_2 a0_3 a0_4)))))) else (some false))) = some r := h
 clear h
 replace H := oB H
 obtain ⟨t313, A40, H⟩ := H
 replace H : (if t313 = true then (if (l2.length : Int) > 20 then (some true) else ((instr_Text.f k a0_0 a0_1 a0_2 a0_3 a0_4).bind fun bt314 => ((pascalinelaw02_Ref.f a0_0 a0_1 a0_2 a0_3 a0_4).bind fun bt316 => ((pascalineref02_Text.f k bt316.1 bt316.2.1 bt316.2.2.1 bt316.2.2.2.1 bt316.2.2.2.2).bind fun bt321 => (if bt314.1.toList = bt321.1.toList then (pascalinelaw02_InstrTexts.j0 k a1 l2 bt314.2 (bt314.2 != bt321.2) a0_0 a0_1 a0_2 a0_3 a0_4) else (pascalinelaw02_InstrTexts.j0 k a1 l2 bt314.2 true a0_0 a0_1 a0_2 a0_3 a0_4)))))) else (some false)) = some r := H
 have A4 := mK A40
 clear A40
 by_cases c5 : t313 = true
 ·
  subst c5
  have H1 : (if (l2.length : Int) > 20 then (some true) else ((instr_Text.f k a0_0 a0_1 a0_2 a0_3 a0_4).bind fun bt314 => ((pascalinelaw02_Ref.f a0_0 a0_1 a0_2 a0_3 a0_4).bind fun bt316 => ((pascalineref02_Text.f k bt316.1 bt316.2.1 bt316.2.2.1 bt316.2.2.2.1 bt316.2.2.2.2).bind fun bt321 => (if bt314.1.toList = bt321.1.toList then (pascalinelaw02_InstrTexts.j0 k a1 l2 bt314.2 (bt314.2 != bt321.2) a0_0 a0_1 a0_2 a0_3 a0_4) else (pascalinelaw02_InstrTexts.j0 k a1 l2 bt314.2 true a0_0 a0_1 a0_2 a0_3 a0_4)))))) = some r := by rw [if_pos rfl] at H; exact H
  clear H
  have H := H1
  clear H1
  by_cases c6 : (l2.length : Int) > 20
  ·
   rw [if_pos c6] at H
   have c6b0 : decide (20 < (l2.length : Int)) = true := decide_eq_true c6
   have c6b1 : decide (20 < l2.length) = true := decide_eq_true (by omega)
   clear c6
   obtain rfl := Option.some.inj H
   go_enter Try.func7, Try.ntmps7
   go_wp2_with (first | ((with_reducible refine gate_dst (N := 3) rfl ?_); refine box_event ?hg (N := 3) ?hd (cs := #[.int .i64 a0_0, .int .i64 a0_1, .int .i64 a0_2, .int .i64 a0_3, .int .i64 a0_4]) (t := 23) ?hr ?_; (case hd => rfl); (case hg => rfl); (case hr => first | (go_simp; done) | (go_simp; rfl)); intro gb312 hg w7 hbox hb; have n0_ := mK (bP (by repeat (first | (with_reducible first | exact HB.out | apply bA | apply bN | apply bD) | exact HB.out)) hb); have n1_ := mK (hbox); have n2_ := mK ((by rw [hg]; exact (bZ (by repeat (first | (with_reducible first | exact HB.out | apply bA | apply bN | apply bD) | exact HB.out))) : w.heap.size ≤ gb312)); have n3_ := mK ((by rw [hg]; exact (bZ (by repeat (first | (with_reducible first | exact HB.out | apply bA | apply bN | apply bD) | exact HB.out))) : w.heap.size ≤ gb312)); clear HB; have HB := n0_; have BK312 := n1_; have GW312 := n2_; have GE312 := n3_; clear n0_ n1_ n2_ n3_; clear hb hbox hg) | ((with_reducible refine gate_callee (f := 8) rfl ?_); refine goesL_ (some 17) rfl rfl Try.func8 (by kernel_rfl) rfl #[] rfl (by (try simp only [List.map_toArray, List.map_cons, List.map_nil]); first | done | rfl) ?_; (with_reducible refine (pascalinelaw02_awake.calls k  true _ A4.out).mono ?_); rintro e w8 ⟨rfl, hb⟩; refine ⟨_, rfl, ?_⟩; have n0_ := mK (kB (g := gb312) (o := o5 a0_0 a0_1 a0_2 a0_3 a0_4 23) (by (with_reducible repeat (first | refine kN ?_ _ | refine kD ?_ | refine kA ?_ _)); exact BK312.out) hb); have n1_ := mK (bP (by repeat (first | (with_reducible first | exact HB.out | apply bA | apply bN | apply bD | refine bS ?_ GE312.out) | exact HB.out)) hb); clear BK312; clear HB; have BK312 := n0_; have HB := n1_; clear n0_ n1_; (try clear hb)))
   go_ret
   exact ⟨by first | rfl | (simp [errW_none, errW_some] <;> rfl) | (simp [*, errW_none, errW_some] <;> rfl), by repeat (first | (with_reducible first | exact HB.out | apply bA | apply bN | apply bD | refine bS ?_ GE312.out) | exact HB.out)⟩
  ·
   rw [if_neg c6] at H
   have c6b0 : decide (20 < (l2.length : Int)) = false := decide_eq_false c6
   have c6b1 : decide (20 < l2.length) = false := decide_eq_false (by omega)
   clear c6
   replace H := oB H
   obtain ⟨⟨t314, t315⟩, A90, H⟩ := H
   replace H : ((pascalinelaw02_Ref.f a0_0 a0_1 a0_2 a0_3 a0_4).bind fun bt316 => ((pascalineref02_Text.f k bt316.1 bt316.2.1 bt316.2.2.1 bt316.2.2.2.1 bt316.2.2.2.2).bind fun bt321 => (if t314.toList = bt321.1.toList then (pascalinelaw02_InstrTexts.j0 k a1 l2 t315 (t315 != bt321.2) a0_0 a0_1 a0_2 a0_3 a0_4) else (pascalinelaw02_InstrTexts.j0 k a1 l2 t315 true a0_0 a0_1 a0_2 a0_3 a0_4)))) = some r := H
   have A9 := mK A90
   clear A90
   replace H := oB H
   obtain ⟨⟨t316, t317, t318, t319, t320⟩, A100, H⟩ := H
   replace H : ((pascalineref02_Text.f k t316 t317 t318 t319 t320).bind fun bt321 => (if t314.toList = bt321.1.toList then (pascalinelaw02_InstrTexts.j0 k a1 l2 t315 (t315 != bt321.2) a0_0 a0_1 a0_2 a0_3 a0_4) else (pascalinelaw02_InstrTexts.j0 k a1 l2 t315 true a0_0 a0_1 a0_2 a0_3 a0_4))) = some r := H
   have A10 := mK A100
   clear A100
   replace H := oB H
   obtain ⟨⟨t321, t322⟩, A110, H⟩ := H
   replace H : (if t314.toList = t321.toList then (pascalinelaw02_InstrTexts.j0 k a1 l2 t315 (t315 != t322) a0_0 a0_1 a0_2 a0_3 a0_4) else (pascalinelaw02_InstrTexts.j0 k a1 l2 t315 true a0_0 a0_1 a0_2 a0_3 a0_4)) = some r := H
   have A11 := mK A110
   clear A110
   have HC12 := mK H
   clear H
   go_enter Try.func7, Try.ntmps7
   go_upto_region 7 with (first | ((with_reducible refine gate_dst (N := 3) rfl ?_); refine box_event ?hg (N := 3) ?hd (cs := #[.int .i64 a0_0, .int .i64 a0_1, .int .i64 a0_2, .int .i64 a0_3, .int .i64 a0_4]) (t := 23) ?hr ?_; (case hd => rfl); (case hg => rfl); (case hr => first | (go_simp; done) | (go_simp; rfl)); intro gb312 hg w13 hbox hb; have n0_ := mK (bP (by repeat (first | (with_reducible first | exact HB.out | apply bA | apply bN | apply bD) | exact HB.out)) hb); have n1_ := mK (hbox); have n2_ := mK ((by rw [hg]; exact (bZ (by repeat (first | (with_reducible first | exact HB.out | apply bA | apply bN | apply bD) | exact HB.out))) : w.heap.size ≤ gb312)); have n3_ := mK ((by rw [hg]; exact (bZ (by repeat (first | (with_reducible first | exact HB.out | apply bA | apply bN | apply bD) | exact HB.out))) : w.heap.size ≤ gb312)); clear HB; have HB := n0_; have BK312 := n1_; have GW312 := n2_; have GE312 := n3_; clear n0_ n1_ n2_ n3_; clear hb hbox hg) | ((with_reducible refine gate_callee (f := 8) rfl ?_); refine goesL_ (some 17) rfl rfl Try.func8 (by kernel_rfl) rfl #[] rfl (by (try simp only [List.map_toArray, List.map_cons, List.map_nil]); first | done | rfl) ?_; (with_reducible refine (pascalinelaw02_awake.calls k  true _ A4.out).mono ?_); rintro e w14 ⟨rfl, hb⟩; refine ⟨_, rfl, ?_⟩; have n0_ := mK (kB (g := gb312) (o := o5 a0_0 a0_1 a0_2 a0_3 a0_4 23) (by (with_reducible repeat (first | refine kN ?_ _ | refine kD ?_ | refine kA ?_ _)); exact BK312.out) hb); have n1_ := mK (bP (by repeat (first | (with_reducible first | exact HB.out | apply bA | apply bN | apply bD | refine bS ?_ GE312.out) | exact HB.out)) hb); clear BK312; clear HB; have BK312 := n0_; have HB := n1_; clear n0_ n1_; (try clear hb); obtain ⟨hcz15_0, hcz15_1, hcz15_2, hcz15_3, hcz15_4, hfz15_0, hfz15_1, hfz15_2, hfz15_3, hfz15_4⟩ := cf5 BK312.out) | ((with_reducible refine gate_callee (f := 20) rfl ?_); refine goesL_ (some 24) rfl rfl Try.func20 (by kernel_rfl) rfl #[.agg #[.int .i64 a0_0, .int .i64 a0_1, .int .i64 a0_2, .int .i64 a0_3, .int .i64 a0_4]] rfl (by (try simp only [List.map_toArray, List.map_cons, List.map_nil]); first | done | rfl) ?_; (with_reducible refine (instr_Text.calls k a0_0 a0_1 a0_2 a0_3 a0_4 t314 t315 _ A9.out).mono ?_); rintro e w16 ⟨rfl, hb⟩; refine ⟨_, rfl, ?_⟩; have n0_ := mK (kB (g := gb312) (o := o5 a0_0 a0_1 a0_2 a0_3 a0_4 23) (by (with_reducible repeat (first | refine kN ?_ _ | refine kD ?_ | refine kA ?_ _)); exact BK312.out) hb); have n1_ := mK (bP (by repeat (first | (with_reducible first | exact HB.out | apply bA | apply bN | apply bD | refine bS ?_ GE312.out) | exact HB.out)) hb); clear BK312; clear HB; have BK312 := n0_; have HB := n1_; clear n0_ n1_; (try clear hb); obtain ⟨hcz17_0, hcz17_1, hcz17_2, hcz17_3, hcz17_4, hfz17_0, hfz17_1, hfz17_2, hfz17_3, hfz17_4⟩ := cf5 BK312.out) | ((with_reducible refine gate_callee (f := 11) rfl ?_); refine goesL_ (some 29) rfl rfl Try.func11 (by kernel_rfl) rfl #[.agg #[.int .i64 a0_0, .int .i64 a0_1, .int .i64 a0_2, .int .i64 a0_3, .int .i64 a0_4]] rfl (by (try simp only [List.map_toArray, List.map_cons, List.map_nil]); first | done | rfl) ?_; (with_reducible refine (pascalinelaw02_Ref.calls a0_0 a0_1 a0_2 a0_3 a0_4 t316 t317 t318 t319 t320 _ A10.out).mono ?_); rintro e w18 ⟨rfl, hb⟩; refine ⟨_, rfl, ?_⟩; have n0_ := mK (kB (g := gb312) (o := o5 a0_0 a0_1 a0_2 a0_3 a0_4 23) (by (with_reducible repeat (first | refine kN ?_ _ | refine kD ?_ | refine kA ?_ _)); exact BK312.out) hb); have n1_ := mK (bP (by repeat (first | (with_reducible first | exact HB.out | apply bA | apply bN | apply bD | refine bS ?_ GE312.out) | exact HB.out)) hb); clear BK312; clear HB; have BK312 := n0_; have HB := n1_; clear n0_ n1_; (try clear hb)) | ((with_reducible refine gate_callee (f := 21) rfl ?_); refine goesL_ (some 30) rfl rfl Try.func21 (by kernel_rfl) rfl #[.agg #[.int .i64 t316, .int .i64 t317, .int .i64 t318, .int .i64 t319, .int .i64 t320]] rfl (by (try simp only [List.map_toArray, List.map_cons, List.map_nil]); first | done | rfl) ?_; (with_reducible refine (pascalineref02_Text.calls k t316 t317 t318 t319 t320 t321 t322 _ A11.out).mono ?_); rintro e w19 ⟨rfl, hb⟩; refine ⟨_, rfl, ?_⟩; have n0_ := mK (kB (g := gb312) (o := o5 a0_0 a0_1 a0_2 a0_3 a0_4 23) (by (with_reducible repeat (first | refine kN ?_ _ | refine kD ?_ | refine kA ?_ _)); exact BK312.out) hb); have n1_ := mK (bP (by repeat (first | (with_reducible first | exact HB.out | apply bA | apply bN | apply bD | refine bS ?_ GE312.out) | exact HB.out)) hb); clear BK312; clear HB; have BK312 := n0_; have HB := n1_; clear n0_ n1_; (try clear hb)))
   (try simp only [Act.put, List.setIfInBounds_toArray, List.set_cons_zero, List.set_cons_succ])
   go_cut [40] (fun v40 wc => ∃ (kq : Nat) (x40_11 : Bool), v40 = .bool x40_11 ∧ Aside0 (pascalinelaw02_InstrTexts.j0 kq a1 l2 t315 x40_11 a0_0 a0_1 a0_2 a0_3 a0_4 = some r) ∧ Aside0 (kq ≤ k) ∧ Aside0 (wc.heap[gb312]? = some (o5 a0_0 a0_1 a0_2 a0_3 a0_4 23)) ∧ Aside0 (Below w.heap.size w wc))
   case first =>
    have H := HC12.out
    clear HC12
    by_cases c20 : t314.toList = t321.toList
    ·
     rw [if_pos c20] at H
     have c20b0 : (t314.toList == t321.toList) = true := beq_iff_eq.mpr c20
     have c20b1 : (t314.toList != t321.toList) = false := bR c20
     clear c20
     (first | rw [c20b0] | (simp only [i64_w, i32_w]; rw [c20b0]) | skip)
     have H' := mK H
     clear H
     go_wp2
     go_meet
     case rel => exact ⟨_, ((t315 != t322)), (by first | rfl | (simp; done) | (simp [*]; done)), H', ⟨by first | omega | exact Nat.le_refl _⟩, ⟨by (with_reducible repeat (first | refine kN ?_ _ | refine kD ?_ | refine kA ?_ _)); exact BK312.out⟩, ⟨by repeat (first | (with_reducible first | exact HB.out | apply bA | apply bN | apply bD | refine bS ?_ GE312.out) | exact HB.out)⟩⟩
    ·
     rw [if_neg c20] at H
     have c20b0 : (t314.toList == t321.toList) = false := bQ c20
     have c20b1 : (t314.toList != t321.toList) = true := bne_iff_ne.mpr c20
     (first | rw [c20b0] | (simp only [i64_w, i32_w]; rw [c20b0]) | skip)
     have H' := mK H
     clear H
     go_wp2
     go_meet
     case rel => exact ⟨_, (true), (by first | rfl | (simp; done) | (simp [*]; done)), H', ⟨by first | omega | exact Nat.le_refl _⟩, ⟨by (with_reducible repeat (first | refine kN ?_ _ | refine kD ?_ | refine kA ?_ _)); exact BK312.out⟩, ⟨by repeat (first | (with_reducible first | exact HB.out | apply bA | apply bN | apply bD | refine bS ?_ GE312.out) | exact HB.out)⟩⟩
   case rest =>
    clear HC12
    (try clear c2); (try clear c5); (try clear c6); (try clear c6b0); (try clear c6b1); (try clear hcz15_0); (try clear hcz15_1); (try clear hcz15_2); (try clear hcz15_3); (try clear hcz15_4); (try clear hcz17_0); (try clear hcz17_1); (try clear hcz17_2); (try clear hcz17_3); (try clear hcz17_4); (try clear hfz15_0); (try clear hfz15_1); (try clear hfz15_2); (try clear hfz15_3); (try clear hfz15_4); (try clear hfz17_0); (try clear hfz17_1); (try clear hfz17_2); (try clear hfz17_3); (try clear hfz17_4)
    obtain ⟨kq, x40_11, rfl, HA, HJ11, BK312, HB⟩ := hcut
    cases kq with
    | zero => exact absurd HA.out (by simp [pascalinelaw02_InstrTexts.j0])
    | succ kj11 =>
     have H := HA.out
     clear HA
     simp only [pascalinelaw02_InstrTexts.j0] at H
     by_cases c21 : x40_11 = true
     ·
      subst c21
      have H1 : (some false) = some r := by rw [if_pos rfl] at H; exact H
      clear H
      have H := H1
      clear H1
      obtain rfl := Option.some.inj H
      go_wp2
      go_ret
      exact ⟨by first | rfl | (simp [errW_none, errW_some] <;> rfl) | (simp [*, errW_none, errW_some] <;> rfl), by repeat (first | (with_reducible first | exact HB.out | apply bA | apply bN | apply bD | refine bS ?_ GE312.out) | exact HB.out)⟩
     ·
      replace c21 := Bool.eq_false_iff.mpr c21
      subst c21
      have H1 : ((instr_Fill.f kj11 a1 l2).bind fun bt323 => ((pascalineref02_Fill.f kj11 a1 l2).bind fun bt330 => (if (bt323.2.2.2.2.2 != bt330.2.2.2.2.2) = true then (pascalinelaw02_InstrTexts.j1 kj11 t315 true a0_0 a0_1 a0_2 a0_3 a0_4) else (if bt323.2.2.2.2.2 = true then ((pascalinelaw02_Ref.f bt323.1 bt323.2.1 bt323.2.2.1 bt323.2.2.2.1 bt323.2.2.2.2.1).bind fun bt337 => (pascalinelaw02_InstrTexts.j1 kj11 t315 (!(bt337.1 == bt330.1) || (!(bt337.2.1 == bt330.2.1) || (!(bt337.2.2.1 == bt330.2.2.1) || (!(bt337.2.2.2.1 == bt330.2.2.2.1) || (!(bt337.2.2.2.2 == bt330.2.2.2.2.1)))))) a0_0 a0_1 a0_2 a0_3 a0_4)) else (pascalinelaw02_InstrTexts.j1 kj11 t315 false a0_0 a0_1 a0_2 a0_3 a0_4))))) = some r := by rw [if_neg (show ¬ (false = true) by decide)] at H; exact H
      clear H
      have H := H1
      clear H1
      replace H := oB H
      obtain ⟨⟨t323, t324, t325, t326, t327, t328⟩, A220, H⟩ := H
      replace H : ((pascalineref02_Fill.f kj11 a1 l2).bind fun bt330 => (if (t328 != bt330.2.2.2.2.2) = true then (pascalinelaw02_InstrTexts.j1 kj11 t315 true a0_0 a0_1 a0_2 a0_3 a0_4) else (if t328 = true then ((pascalinelaw02_Ref.f t323 t324 t325 t326 t327).bind fun bt337 => (pascalinelaw02_InstrTexts.j1 kj11 t315 (!(bt337.1 == bt330.1) || (!(bt337.2.1 == bt330.2.1) || (!(bt337.2.2.1 == bt330.2.2.1) || (!(bt337.2.2.2.1 == bt330.2.2.2.1) || (!(bt337.2.2.2.2 == bt330.2.2.2.2.1)))))) a0_0 a0_1 a0_2 a0_3 a0_4)) else (pascalinelaw02_InstrTexts.j1 kj11 t315 false a0_0 a0_1 a0_2 a0_3 a0_4)))) = some r := H
      have A22 := mK A220
      clear A220
      replace H := oB H
      obtain ⟨⟨t330, t331, t332, t333, t334, t335⟩, A230, H⟩ := H
      replace H : (if (t328 != t335) = true then (pascalinelaw02_InstrTexts.j1 kj11 t315 true a0_0 a0_1 a0_2 a0_3 a0_4) else (if t328 = true then ((pascalinelaw02_Ref.f t323 t324 t325 t326 t327).bind fun bt337 => (pascalinelaw02_InstrTexts.j1 kj11 t315 (!(bt337.1 == t330) || (!(bt337.2.1 == t331) || (!(bt337.2.2.1 == t332) || (!(bt337.2.2.2.1 == t333) || (!(bt337.2.2.2.2 == t334)))))) a0_0 a0_1 a0_2 a0_3 a0_4)) else (pascalinelaw02_InstrTexts.j1 kj11 t315 false a0_0 a0_1 a0_2 a0_3 a0_4))) = some r := H
      have A23 := mK A230
      clear A230
      have HC24 := mK H
      clear H
      go_upto_region 11 with (first | ((with_reducible refine gate_callee (f := 22) rfl ?_); refine goesL_ (some 44) rfl rfl Try.func22 (by kernel_rfl) rfl #[.int .i64 a1, .slice A2 l2.length c2] rfl (by (try simp only [List.map_toArray, List.map_cons, List.map_nil]); first | done | rfl) ?_; (with_reducible refine (instr_Fill.calls kj11 a1 _ _ l2 t323 t324 t325 t326 t327 t328 _ ?side1 ?side2 A22.out).mono ?_); (case side1 => repeat (first | exact (Kd.C_below HR2.out HB.out) | (with_reducible refine Kd.C_alloc ?_ _) | (with_reducible refine Kd.C_drewN ?_ _) | (with_reducible refine Kd.C_drew ?_))); (case side2 => exact HC2.out); rintro e w25 ⟨rfl, hb⟩; refine ⟨_, rfl, ?_⟩; have n0_ := mK (kB (g := gb312) (o := o5 a0_0 a0_1 a0_2 a0_3 a0_4 23) (by (with_reducible repeat (first | refine kN ?_ _ | refine kD ?_ | refine kA ?_ _)); exact BK312.out) hb); have n1_ := mK (bP (by repeat (first | (with_reducible first | exact HB.out | apply bA | apply bN | apply bD | refine bS ?_ GE312.out) | exact HB.out)) hb); clear BK312; clear HB; have BK312 := n0_; have HB := n1_; clear n0_ n1_; (try clear hb)) | ((with_reducible refine gate_dst (N := 11) rfl ?_); refine box_event ?hg (N := 11) ?hd (cs := #[.int .i64 0, .int .i64 0, .int .i64 0, .int .i64 0, .int .i64 0]) (t := 23) ?hr ?_; (case hd => rfl); (case hg => rfl); (case hr => first | (go_simp; done) | (go_simp; rfl)); intro gb329 hg w26 hbox hb; have n0_ := mK (kB (g := gb312) (o := o5 a0_0 a0_1 a0_2 a0_3 a0_4 23) (by (with_reducible repeat (first | refine kN ?_ _ | refine kD ?_ | refine kA ?_ _)); exact BK312.out) hb); have n1_ := mK (bP (by repeat (first | (with_reducible first | exact HB.out | apply bA | apply bN | apply bD | refine bS ?_ GE312.out) | exact HB.out)) hb); have n2_ := mK (hbox); have n3_ := mK ((by rw [hg]; exact (bZ (by repeat (first | (with_reducible first | exact HB.out | apply bA | apply bN | apply bD | refine bS ?_ GE312.out) | exact HB.out))) : w.heap.size ≤ gb329)); have n4_ := mK ((by rw [hg]; exact (bZ (by repeat (first | (with_reducible first | exact HB.out | apply bA | apply bN | apply bD | refine bS ?_ GE312.out) | exact HB.out))) : w.heap.size ≤ gb329)); have n5_ := mK ((by rw [hg]; exact Nat.ne_of_lt (blk_lt (g := gb312) (o := o5 a0_0 a0_1 a0_2 a0_3 a0_4 23) (by (with_reducible repeat (first | refine kN ?_ _ | refine kD ?_ | refine kA ?_ _)); exact BK312.out)) : gb312 ≠ gb329)); have n6_ := mK ((by rw [hg]; exact Nat.ne_of_gt (blk_lt (g := gb312) (o := o5 a0_0 a0_1 a0_2 a0_3 a0_4 23) (by (with_reducible repeat (first | refine kN ?_ _ | refine kD ?_ | refine kA ?_ _)); exact BK312.out)) : gb329 ≠ gb312)); clear BK312; clear HB; have BK312 := n0_; have HB := n1_; have BK329 := n2_; have GW329 := n3_; have GE329 := n4_; have NB312_329 := n5_; have NB329_312 := n6_; clear n0_ n1_ n2_ n3_ n4_ n5_ n6_; clear hb hbox hg; have hnb27 := NB329_312.out; have hnc27 := NB312_329.out; obtain ⟨hcz28_0, hcz28_1, hcz28_2, hcz28_3, hcz28_4, hfz28_0, hfz28_1, hfz28_2, hfz28_3, hfz28_4⟩ := cf5 BK329.out) | ((with_reducible refine gate_callee (f := 23) rfl ?_); refine goesL_ (some 50) rfl rfl Try.func23 (by kernel_rfl) rfl #[.int .i64 a1, .slice A2 l2.length c2] rfl (by (try simp only [List.map_toArray, List.map_cons, List.map_nil]); first | done | rfl) ?_; (with_reducible refine (pascalineref02_Fill.calls kj11 a1 _ _ l2 t330 t331 t332 t333 t334 t335 _ ?side1 ?side2 A23.out).mono ?_); (case side1 => exact Kd.C_below HR2.out (by repeat (first | (with_reducible first | exact HB.out | apply bA | apply bN | apply bD | refine bS ?_ GE312.out | refine bS ?_ GE329.out) | exact HB.out))); (case side2 => exact HC2.out); rintro e w29 ⟨rfl, hb⟩; refine ⟨_, rfl, ?_⟩; have n0_ := mK (kB (g := gb312) (o := o5 a0_0 a0_1 a0_2 a0_3 a0_4 23) (by (with_reducible repeat (first | refine kN ?_ _ | refine kD ?_ | refine kA ?_ _)); refine kR ?_ NB312_329.out _; (with_reducible repeat (first | refine kN ?_ _ | refine kD ?_ | refine kA ?_ _)); refine kR ?_ NB312_329.out _; (with_reducible repeat (first | refine kN ?_ _ | refine kD ?_ | refine kA ?_ _)); refine kR ?_ NB312_329.out _; (with_reducible repeat (first | refine kN ?_ _ | refine kD ?_ | refine kA ?_ _)); refine kR ?_ NB312_329.out _; (with_reducible repeat (first | refine kN ?_ _ | refine kD ?_ | refine kA ?_ _)); refine kR ?_ NB312_329.out _; (with_reducible repeat (first | refine kN ?_ _ | refine kD ?_ | refine kA ?_ _)); exact BK312.out) hb); have n1_ := mK (kB (g := gb329) (o := o5 t323 t324 t325 t326 t327 23) (by (with_reducible repeat (first | refine kN ?_ _ | refine kD ?_ | refine kA ?_ _)); refine kP (cs := #[.int .i64 t323, .int .i64 t324, .int .i64 t325, .int .i64 t326, .int .i64 0]) ?_ 4 _ rfl; (with_reducible repeat (first | refine kN ?_ _ | refine kD ?_ | refine kA ?_ _)); refine kP (cs := #[.int .i64 t323, .int .i64 t324, .int .i64 t325, .int .i64 0, .int .i64 0]) ?_ 3 _ rfl; (with_reducible repeat (first | refine kN ?_ _ | refine kD ?_ | refine kA ?_ _)); refine kP (cs := #[.int .i64 t323, .int .i64 t324, .int .i64 0, .int .i64 0, .int .i64 0]) ?_ 2 _ rfl; (with_reducible repeat (first | refine kN ?_ _ | refine kD ?_ | refine kA ?_ _)); refine kP (cs := #[.int .i64 t323, .int .i64 0, .int .i64 0, .int .i64 0, .int .i64 0]) ?_ 1 _ rfl; (with_reducible repeat (first | refine kN ?_ _ | refine kD ?_ | refine kA ?_ _)); refine kP (cs := #[.int .i64 0, .int .i64 0, .int .i64 0, .int .i64 0, .int .i64 0]) ?_ 0 _ rfl; (with_reducible repeat (first | refine kN ?_ _ | refine kD ?_ | refine kA ?_ _)); exact BK329.out) hb); have n2_ := mK (bP (by repeat (first | (with_reducible first | exact HB.out | apply bA | apply bN | apply bD | refine bS ?_ GE312.out | refine bS ?_ GE329.out) | exact HB.out)) hb); clear BK312; clear BK329; clear HB; have BK312 := n0_; have BK329 := n1_; have HB := n2_; clear n0_ n1_ n2_; (try clear hb)) | ((with_reducible refine gate_dst (N := 13) rfl ?_); refine box_event ?hg (N := 13) ?hd (cs := #[.int .i64 0, .int .i64 0, .int .i64 0, .int .i64 0, .int .i64 0]) (t := 31) ?hr ?_; (case hd => rfl); (case hg => rfl); (case hr => first | (go_simp; done) | (go_simp; rfl)); intro gb336 hg w30 hbox hb; have n0_ := mK (kB (g := gb312) (o := o5 a0_0 a0_1 a0_2 a0_3 a0_4 23) (by (with_reducible repeat (first | refine kN ?_ _ | refine kD ?_ | refine kA ?_ _)); exact BK312.out) hb); have n1_ := mK (kB (g := gb329) (o := o5 t323 t324 t325 t326 t327 23) (by (with_reducible repeat (first | refine kN ?_ _ | refine kD ?_ | refine kA ?_ _)); exact BK329.out) hb); have n2_ := mK (bP (by repeat (first | (with_reducible first | exact HB.out | apply bA | apply bN | apply bD | refine bS ?_ GE312.out | refine bS ?_ GE329.out) | exact HB.out)) hb); have n3_ := mK (hbox); have n4_ := mK ((by rw [hg]; exact (bZ (by repeat (first | (with_reducible first | exact HB.out | apply bA | apply bN | apply bD | refine bS ?_ GE312.out | refine bS ?_ GE329.out) | exact HB.out))) : w.heap.size ≤ gb336)); have n5_ := mK ((by rw [hg]; exact (bZ (by repeat (first | (with_reducible first | exact HB.out | apply bA | apply bN | apply bD | refine bS ?_ GE312.out | refine bS ?_ GE329.out) | exact HB.out))) : w.heap.size ≤ gb336)); have n6_ := mK ((by rw [hg]; exact Nat.ne_of_lt (blk_lt (g := gb312) (o := o5 a0_0 a0_1 a0_2 a0_3 a0_4 23) (by (with_reducible repeat (first | refine kN ?_ _ | refine kD ?_ | refine kA ?_ _)); exact BK312.out)) : gb312 ≠ gb336)); have n7_ := mK ((by rw [hg]; exact Nat.ne_of_gt (blk_lt (g := gb312) (o := o5 a0_0 a0_1 a0_2 a0_3 a0_4 23) (by (with_reducible repeat (first | refine kN ?_ _ | refine kD ?_ | refine kA ?_ _)); exact BK312.out)) : gb336 ≠ gb312)); have n8_ := mK ((by rw [hg]; exact Nat.ne_of_lt (blk_lt (g := gb329) (o := o5 t323 t324 t325 t326 t327 23) (by (with_reducible repeat (first | refine kN ?_ _ | refine kD ?_ | refine kA ?_ _)); exact BK329.out)) : gb329 ≠ gb336)); have n9_ := mK ((by rw [hg]; exact Nat.ne_of_gt (blk_lt (g := gb329) (o := o5 t323 t324 t325 t326 t327 23) (by (with_reducible repeat (first | refine kN ?_ _ | refine kD ?_ | refine kA ?_ _)); exact BK329.out)) : gb336 ≠ gb329)); clear BK312; clear BK329; clear HB; have BK312 := n0_; have BK329 := n1_; have HB := n2_; have BK336 := n3_; have GW336 := n4_; have GE336 := n5_; have NB312_336 := n6_; have NB336_312 := n7_; have NB329_336 := n8_; have NB336_329 := n9_; clear n0_ n1_ n2_ n3_ n4_ n5_ n6_ n7_ n8_ n9_; clear hb hbox hg; have hnb31 := NB336_312.out; have hnc31 := NB312_336.out; have hnb32 := NB336_329.out; have hnc32 := NB329_336.out; obtain ⟨hcz33_0, hcz33_1, hcz33_2, hcz33_3, hcz33_4, hfz33_0, hfz33_1, hfz33_2, hfz33_3, hfz33_4⟩ := cf5 BK336.out))
      (try simp only [Act.put, List.setIfInBounds_toArray, List.set_cons_zero, List.set_cons_succ])
      go_cut [64] (fun v64 wc => ∃ (kq : Nat) (x64_23 : Bool), v64 = .bool x64_23 ∧ Aside0 (pascalinelaw02_InstrTexts.j1 kq t315 x64_23 a0_0 a0_1 a0_2 a0_3 a0_4 = some r) ∧ Aside0 (kq ≤ kj11) ∧ Aside0 (wc.heap[gb312]? = some (o5 a0_0 a0_1 a0_2 a0_3 a0_4 23)) ∧ Aside0 (wc.heap[gb329]? = some (o5 t323 t324 t325 t326 t327 23)) ∧ Aside0 (wc.heap[gb336]? = some (o5 t330 t331 t332 t333 t334 31)) ∧ Aside0 (Below w.heap.size w wc))
      case first =>
       have H := HC24.out
       clear HC24
       by_cases c34 : (t328 != t335) = true
       ·
        rw [if_pos c34] at H
        have c34b0 : (t328 != t335) = true := c34
        (try (have c34b1 : decide (t328 = t335) = false := by simpa using c34))
        (try (have c34b2 : (t328 == t335) = false := by simpa using c34))
        (try (have c34b3 : ¬ (t328 = t335) := by simpa using c34))
        clear c34
        (first | rw [c34b0] | (simp only [i64_w, i32_w]; rw [c34b0]) | skip)
        have H' := mK H
        clear H
        try go_wp2
        have n0_ : Aside0 ((((((w30.setCell ⟨gb336, 0, none⟩ (.int .i64 t330)).setCell ⟨gb336, 1, none⟩ (.int .i64 t331)).setCell ⟨gb336, 2, none⟩ (.int .i64 t332)).setCell ⟨gb336, 3, none⟩ (.int .i64 t333)).setCell ⟨gb336, 4, none⟩ (.int .i64 t334)).heap[gb312]? = some (o5 a0_0 a0_1 a0_2 a0_3 a0_4 23)) := ⟨by (with_reducible repeat (first | refine kN ?_ _ | refine kD ?_ | refine kA ?_ _)); refine kR ?_ NB312_336.out _; (with_reducible repeat (first | refine kN ?_ _ | refine kD ?_ | refine kA ?_ _)); refine kR ?_ NB312_336.out _; (with_reducible repeat (first | refine kN ?_ _ | refine kD ?_ | refine kA ?_ _)); refine kR ?_ NB312_336.out _; (with_reducible repeat (first | refine kN ?_ _ | refine kD ?_ | refine kA ?_ _)); refine kR ?_ NB312_336.out _; (with_reducible repeat (first | refine kN ?_ _ | refine kD ?_ | refine kA ?_ _)); refine kR ?_ NB312_336.out _; (with_reducible repeat (first | refine kN ?_ _ | refine kD ?_ | refine kA ?_ _)); exact BK312.out⟩
        have n1_ : Aside0 ((((((w30.setCell ⟨gb336, 0, none⟩ (.int .i64 t330)).setCell ⟨gb336, 1, none⟩ (.int .i64 t331)).setCell ⟨gb336, 2, none⟩ (.int .i64 t332)).setCell ⟨gb336, 3, none⟩ (.int .i64 t333)).setCell ⟨gb336, 4, none⟩ (.int .i64 t334)).heap[gb329]? = some (o5 t323 t324 t325 t326 t327 23)) := ⟨by (with_reducible repeat (first | refine kN ?_ _ | refine kD ?_ | refine kA ?_ _)); refine kR ?_ NB329_336.out _; (with_reducible repeat (first | refine kN ?_ _ | refine kD ?_ | refine kA ?_ _)); refine kR ?_ NB329_336.out _; (with_reducible repeat (first | refine kN ?_ _ | refine kD ?_ | refine kA ?_ _)); refine kR ?_ NB329_336.out _; (with_reducible repeat (first | refine kN ?_ _ | refine kD ?_ | refine kA ?_ _)); refine kR ?_ NB329_336.out _; (with_reducible repeat (first | refine kN ?_ _ | refine kD ?_ | refine kA ?_ _)); refine kR ?_ NB329_336.out _; (with_reducible repeat (first | refine kN ?_ _ | refine kD ?_ | refine kA ?_ _)); exact BK329.out⟩
        have n2_ : Aside0 ((((((w30.setCell ⟨gb336, 0, none⟩ (.int .i64 t330)).setCell ⟨gb336, 1, none⟩ (.int .i64 t331)).setCell ⟨gb336, 2, none⟩ (.int .i64 t332)).setCell ⟨gb336, 3, none⟩ (.int .i64 t333)).setCell ⟨gb336, 4, none⟩ (.int .i64 t334)).heap[gb336]? = some (o5 t330 t331 t332 t333 t334 31)) := ⟨by (with_reducible repeat (first | refine kN ?_ _ | refine kD ?_ | refine kA ?_ _)); refine kP (cs := #[.int .i64 t330, .int .i64 t331, .int .i64 t332, .int .i64 t333, .int .i64 0]) ?_ 4 _ rfl; (with_reducible repeat (first | refine kN ?_ _ | refine kD ?_ | refine kA ?_ _)); refine kP (cs := #[.int .i64 t330, .int .i64 t331, .int .i64 t332, .int .i64 0, .int .i64 0]) ?_ 3 _ rfl; (with_reducible repeat (first | refine kN ?_ _ | refine kD ?_ | refine kA ?_ _)); refine kP (cs := #[.int .i64 t330, .int .i64 t331, .int .i64 0, .int .i64 0, .int .i64 0]) ?_ 2 _ rfl; (with_reducible repeat (first | refine kN ?_ _ | refine kD ?_ | refine kA ?_ _)); refine kP (cs := #[.int .i64 t330, .int .i64 0, .int .i64 0, .int .i64 0, .int .i64 0]) ?_ 1 _ rfl; (with_reducible repeat (first | refine kN ?_ _ | refine kD ?_ | refine kA ?_ _)); refine kP (cs := #[.int .i64 0, .int .i64 0, .int .i64 0, .int .i64 0, .int .i64 0]) ?_ 0 _ rfl; (with_reducible repeat (first | refine kN ?_ _ | refine kD ?_ | refine kA ?_ _)); exact BK336.out⟩
        have n3_ : Aside0 (Below w.heap.size w (((((w30.setCell ⟨gb336, 0, none⟩ (.int .i64 t330)).setCell ⟨gb336, 1, none⟩ (.int .i64 t331)).setCell ⟨gb336, 2, none⟩ (.int .i64 t332)).setCell ⟨gb336, 3, none⟩ (.int .i64 t333)).setCell ⟨gb336, 4, none⟩ (.int .i64 t334))) := ⟨by repeat (first | (with_reducible first | exact HB.out | apply bA | apply bN | apply bD | refine bS ?_ GE312.out | refine bS ?_ GE329.out | refine bS ?_ GE336.out) | exact HB.out)⟩
        (try clear BK312)
        (try clear BK329)
        (try clear BK336)
        (try clear HB)
        generalize (((((w30.setCell ⟨gb336, 0, none⟩ (.int .i64 t330)).setCell ⟨gb336, 1, none⟩ (.int .i64 t331)).setCell ⟨gb336, 2, none⟩ (.int .i64 t332)).setCell ⟨gb336, 3, none⟩ (.int .i64 t333)).setCell ⟨gb336, 4, none⟩ (.int .i64 t334)) = w35 at n0_ n1_ n2_ n3_ ⊢
        have BK312 := n0_
        have BK329 := n1_
        have BK336 := n2_
        have HB := n3_
        clear n0_ n1_ n2_ n3_
        have n0_ := mK (kD BK312.out)
        have n1_ := mK (kD BK329.out)
        have n2_ := mK (kD BK336.out)
        have n3_ := mK (bD HB.out)
        clear BK312
        clear BK329
        clear BK336
        clear HB
        have BK312 := n0_
        have BK329 := n1_
        have BK336 := n2_
        have HB := n3_
        clear n0_ n1_ n2_ n3_
        refine start_ (n := 12) (S := fun w' => True) (ds := []) #[false, false, false, false, false, false, false, false, false, false, false, false] (by kernel_rfl) rfl rfl trivial (fun hHeld => ?_); refine with_tabW pascalinelaw02_InstrTexts.tab11 pascalinelaw02_InstrTexts.bits11 (fun HT_ HW_ => ?_)
        generalize w35.drew = w36 at BK312 BK329 BK336 HB hHeld ⊢
        refine pure_ (i := 0) (N := some 53) (v := ?_) (a' := ?_) #[true, false, false, false, false, false, false, false, false, false, false, false] rfl rfl (any_of HT_.out (by kernel_rfl)) (fun _ _ _ h => h) (Or.inl ⟨by rfl, ?_⟩) ?_ ?_
        rotate_left
        ·
         intro w'
         go_simp
         with_reducible rfl
        rotate_left
        ·
         simp only [Act.put, List.setIfInBounds_toArray, List.set_cons_zero, List.set_cons_succ, i64_w, i32_w]
         rfl
        refine pure_ (i := 1) (N := some 54) (v := ?_) (a' := ?_) #[true, true, false, false, false, false, false, false, false, false, false, false] rfl rfl (any_of HT_.out (by kernel_rfl)) (fun _ _ _ h => h) (Or.inl ⟨by rfl, ?_⟩) ?_ ?_
        rotate_left
        ·
         intro w'
         go_simp
         with_reducible rfl
        rotate_left
        ·
         simp only [Act.put, List.setIfInBounds_toArray, List.set_cons_zero, List.set_cons_succ, i64_w, i32_w]
         rfl
        refine pure_ (i := 2) (N := some 55) (v := ?_) (a' := ?_) #[true, true, true, false, false, false, false, false, false, false, false, false] rfl rfl (any_of HT_.out (by kernel_rfl)) (fun _ _ _ h => h) (Or.inl ⟨by rfl, ?_⟩) ?_ ?_
        rotate_left
        ·
         intro w'
         go_simp
         with_reducible rfl
        rotate_left
        ·
         simp only [Act.put, List.setIfInBounds_toArray, List.set_cons_zero, List.set_cons_succ, i64_w, i32_w]
         rfl
        refine pure_ (i := 3) (N := some 56) (v := ?_) (a' := ?_) #[true, true, true, true, false, false, false, false, false, false, false, false] rfl rfl (any_of HT_.out (by kernel_rfl)) (fun _ _ _ h => h) (Or.inl ⟨by rfl, ?_⟩) ?_ ?_
        rotate_left
        ·
         intro w'
         go_simp
         with_reducible rfl
        rotate_left
        ·
         simp only [Act.put, List.setIfInBounds_toArray, List.set_cons_zero, List.set_cons_succ, i64_w, i32_w]
         rfl
        refine pure_ (i := 4) (N := some 57) (v := undef) (a' := ?_) #[true, true, true, true, true, false, false, false, false, false, false, false] rfl rfl (any_of HT_.out (by kernel_rfl)) (fun _ _ _ h => h) (Or.inr ⟨by rfl, rfl⟩) ?_ ?_
        rotate_left
        ·
         simp only [Act.put, List.setIfInBounds_toArray, List.set_cons_zero, List.set_cons_succ, i64_w, i32_w]
         rfl
        refine pure_ (i := 5) (N := some 58) (v := undef) (a' := ?_) #[true, true, true, true, true, true, false, false, false, false, false, false] rfl rfl (any_of HT_.out (by kernel_rfl)) (fun _ _ _ h => h) (Or.inr ⟨by rfl, rfl⟩) ?_ ?_
        rotate_left
        ·
         simp only [Act.put, List.setIfInBounds_toArray, List.set_cons_zero, List.set_cons_succ, i64_w, i32_w]
         rfl
        refine pure_ (i := 6) (N := some 59) (v := undef) (a' := ?_) #[true, true, true, true, true, true, true, false, false, false, false, false] rfl rfl (any_of HT_.out (by kernel_rfl)) (fun _ _ _ h => h) (Or.inr ⟨by rfl, rfl⟩) ?_ ?_
        rotate_left
        ·
         simp only [Act.put, List.setIfInBounds_toArray, List.set_cons_zero, List.set_cons_succ, i64_w, i32_w]
         rfl
        refine pure_ (i := 7) (N := some 60) (v := undef) (a' := ?_) #[true, true, true, true, true, true, true, true, false, false, false, false] rfl rfl (any_of HT_.out (by kernel_rfl)) (fun _ _ _ h => h) (Or.inr ⟨by rfl, rfl⟩) ?_ ?_
        rotate_left
        ·
         simp only [Act.put, List.setIfInBounds_toArray, List.set_cons_zero, List.set_cons_succ, i64_w, i32_w]
         rfl
        refine pure_ (i := 8) (N := some 61) (v := undef) (a' := ?_) #[true, true, true, true, true, true, true, true, true, false, false, false] rfl rfl (any_of HT_.out (by kernel_rfl)) (fun _ _ _ h => h) (Or.inr ⟨by rfl, rfl⟩) ?_ ?_
        rotate_left
        ·
         simp only [Act.put, List.setIfInBounds_toArray, List.set_cons_zero, List.set_cons_succ, i64_w, i32_w]
         rfl
        refine pure_ (i := 9) (N := some 62) (v := undef) (a' := ?_) #[true, true, true, true, true, true, true, true, true, true, false, false] rfl rfl (any_of HT_.out (by kernel_rfl)) (fun _ _ _ h => h) (Or.inr ⟨by rfl, rfl⟩) ?_ ?_
        rotate_left
        ·
         simp only [Act.put, List.setIfInBounds_toArray, List.set_cons_zero, List.set_cons_succ, i64_w, i32_w]
         rfl
        refine pure_ (i := 10) (N := some 63) (v := undef) (a' := ?_) #[true, true, true, true, true, true, true, true, true, true, true, false] rfl rfl (any_of HT_.out (by kernel_rfl)) (fun _ _ _ h => h) (Or.inr ⟨by rfl, rfl⟩) ?_ ?_
        rotate_left
        ·
         simp only [Act.put, List.setIfInBounds_toArray, List.set_cons_zero, List.set_cons_succ, i64_w, i32_w]
         rfl
        refine pure_ (i := 11) (N := some 64) (v := ?_) (a' := ?_) #[true, true, true, true, true, true, true, true, true, true, true, true] rfl rfl (any_of HT_.out (by kernel_rfl)) (fun _ _ _ h => h) (Or.inl ⟨by rfl, ?_⟩) ?_ ?_
        rotate_left
        ·
         intro w'
         go_simp
         with_reducible rfl
        rotate_left
        ·
         simp only [Act.put, List.setIfInBounds_toArray, List.set_cons_zero, List.set_cons_succ, i64_w, i32_w]
         rfl
        refine done_ (done_of HT_.out (by kernel_rfl)) ?_
        try go_wp2
        go_meet
        case rel => exact ⟨_, (true), (by first | rfl | (simp; done) | (simp [*]; done)), H', ⟨by have := HJ11.out; first | omega | exact Nat.le_refl _⟩, ⟨by (with_reducible repeat (first | refine kN ?_ _ | refine kD ?_ | refine kA ?_ _)); exact BK312.out⟩, ⟨by (with_reducible repeat (first | refine kN ?_ _ | refine kD ?_ | refine kA ?_ _)); exact BK329.out⟩, ⟨by (with_reducible repeat (first | refine kN ?_ _ | refine kD ?_ | refine kA ?_ _)); exact BK336.out⟩, ⟨by repeat (first | (with_reducible first | exact HB.out | apply bA | apply bN | apply bD | refine bS ?_ GE312.out | refine bS ?_ GE329.out | refine bS ?_ GE336.out) | exact HB.out)⟩⟩
       ·
        rw [if_neg c34] at H
        have c34b0 : (t328 != t335) = false := by simpa using c34
        (try (have c34b1 : decide (t328 = t335) = true := by simpa using c34))
        (try (have c34b2 : (t328 == t335) = true := by simpa using c34))
        clear c34
        (first | rw [c34b0] | (simp only [i64_w, i32_w]; rw [c34b0]) | skip)
        by_cases c37 : t328 = true
        ·
         subst c37
         have H1 : ((pascalinelaw02_Ref.f t323 t324 t325 t326 t327).bind fun bt337 => (pascalinelaw02_InstrTexts.j1 kj11 t315 (!(bt337.1 == t330) || (!(bt337.2.1 == t331) || (!(bt337.2.2.1 == t332) || (!(bt337.2.2.2.1 == t333) || (!(bt337.2.2.2.2 == t334)))))) a0_0 a0_1 a0_2 a0_3 a0_4)) = some r := by rw [if_pos rfl] at H; exact H
         clear H
         have H := H1
         clear H1
         replace H := oB H
         obtain ⟨⟨t337, t338, t339, t340, t341⟩, A380, H⟩ := H
         replace H : (pascalinelaw02_InstrTexts.j1 kj11 t315 (!(t337 == t330) || (!(t338 == t331) || (!(t339 == t332) || (!(t340 == t333) || (!(t341 == t334)))))) a0_0 a0_1 a0_2 a0_3 a0_4) = some r := H
         have A38 := mK A380
         clear A380
         have H' := mK H
         clear H
         try go_wp2
         have n0_ : Aside0 ((((((w30.setCell ⟨gb336, 0, none⟩ (.int .i64 t330)).setCell ⟨gb336, 1, none⟩ (.int .i64 t331)).setCell ⟨gb336, 2, none⟩ (.int .i64 t332)).setCell ⟨gb336, 3, none⟩ (.int .i64 t333)).setCell ⟨gb336, 4, none⟩ (.int .i64 t334)).heap[gb312]? = some (o5 a0_0 a0_1 a0_2 a0_3 a0_4 23)) := ⟨by (with_reducible repeat (first | refine kN ?_ _ | refine kD ?_ | refine kA ?_ _)); refine kR ?_ NB312_336.out _; (with_reducible repeat (first | refine kN ?_ _ | refine kD ?_ | refine kA ?_ _)); refine kR ?_ NB312_336.out _; (with_reducible repeat (first | refine kN ?_ _ | refine kD ?_ | refine kA ?_ _)); refine kR ?_ NB312_336.out _; (with_reducible repeat (first | refine kN ?_ _ | refine kD ?_ | refine kA ?_ _)); refine kR ?_ NB312_336.out _; (with_reducible repeat (first | refine kN ?_ _ | refine kD ?_ | refine kA ?_ _)); refine kR ?_ NB312_336.out _; (with_reducible repeat (first | refine kN ?_ _ | refine kD ?_ | refine kA ?_ _)); exact BK312.out⟩
         have n1_ : Aside0 ((((((w30.setCell ⟨gb336, 0, none⟩ (.int .i64 t330)).setCell ⟨gb336, 1, none⟩ (.int .i64 t331)).setCell ⟨gb336, 2, none⟩ (.int .i64 t332)).setCell ⟨gb336, 3, none⟩ (.int .i64 t333)).setCell ⟨gb336, 4, none⟩ (.int .i64 t334)).heap[gb329]? = some (o5 t323 t324 t325 t326 t327 23)) := ⟨by (with_reducible repeat (first | refine kN ?_ _ | refine kD ?_ | refine kA ?_ _)); refine kR ?_ NB329_336.out _; (with_reducible repeat (first | refine kN ?_ _ | refine kD ?_ | refine kA ?_ _)); refine kR ?_ NB329_336.out _; (with_reducible repeat (first | refine kN ?_ _ | refine kD ?_ | refine kA ?_ _)); refine kR ?_ NB329_336.out _; (with_reducible repeat (first | refine kN ?_ _ | refine kD ?_ | refine kA ?_ _)); refine kR ?_ NB329_336.out _; (with_reducible repeat (first | refine kN ?_ _ | refine kD ?_ | refine kA ?_ _)); refine kR ?_ NB329_336.out _; (with_reducible repeat (first | refine kN ?_ _ | refine kD ?_ | refine kA ?_ _)); exact BK329.out⟩
         have n2_ : Aside0 ((((((w30.setCell ⟨gb336, 0, none⟩ (.int .i64 t330)).setCell ⟨gb336, 1, none⟩ (.int .i64 t331)).setCell ⟨gb336, 2, none⟩ (.int .i64 t332)).setCell ⟨gb336, 3, none⟩ (.int .i64 t333)).setCell ⟨gb336, 4, none⟩ (.int .i64 t334)).heap[gb336]? = some (o5 t330 t331 t332 t333 t334 31)) := ⟨by (with_reducible repeat (first | refine kN ?_ _ | refine kD ?_ | refine kA ?_ _)); refine kP (cs := #[.int .i64 t330, .int .i64 t331, .int .i64 t332, .int .i64 t333, .int .i64 0]) ?_ 4 _ rfl; (with_reducible repeat (first | refine kN ?_ _ | refine kD ?_ | refine kA ?_ _)); refine kP (cs := #[.int .i64 t330, .int .i64 t331, .int .i64 t332, .int .i64 0, .int .i64 0]) ?_ 3 _ rfl; (with_reducible repeat (first | refine kN ?_ _ | refine kD ?_ | refine kA ?_ _)); refine kP (cs := #[.int .i64 t330, .int .i64 t331, .int .i64 0, .int .i64 0, .int .i64 0]) ?_ 2 _ rfl; (with_reducible repeat (first | refine kN ?_ _ | refine kD ?_ | refine kA ?_ _)); refine kP (cs := #[.int .i64 t330, .int .i64 0, .int .i64 0, .int .i64 0, .int .i64 0]) ?_ 1 _ rfl; (with_reducible repeat (first | refine kN ?_ _ | refine kD ?_ | refine kA ?_ _)); refine kP (cs := #[.int .i64 0, .int .i64 0, .int .i64 0, .int .i64 0, .int .i64 0]) ?_ 0 _ rfl; (with_reducible repeat (first | refine kN ?_ _ | refine kD ?_ | refine kA ?_ _)); exact BK336.out⟩
         have n3_ : Aside0 (Below w.heap.size w (((((w30.setCell ⟨gb336, 0, none⟩ (.int .i64 t330)).setCell ⟨gb336, 1, none⟩ (.int .i64 t331)).setCell ⟨gb336, 2, none⟩ (.int .i64 t332)).setCell ⟨gb336, 3, none⟩ (.int .i64 t333)).setCell ⟨gb336, 4, none⟩ (.int .i64 t334))) := ⟨by repeat (first | (with_reducible first | exact HB.out | apply bA | apply bN | apply bD | refine bS ?_ GE312.out | refine bS ?_ GE329.out | refine bS ?_ GE336.out) | exact HB.out)⟩
         (try clear BK312)
         (try clear BK329)
         (try clear BK336)
         (try clear HB)
         generalize (((((w30.setCell ⟨gb336, 0, none⟩ (.int .i64 t330)).setCell ⟨gb336, 1, none⟩ (.int .i64 t331)).setCell ⟨gb336, 2, none⟩ (.int .i64 t332)).setCell ⟨gb336, 3, none⟩ (.int .i64 t333)).setCell ⟨gb336, 4, none⟩ (.int .i64 t334)) = w39 at n0_ n1_ n2_ n3_ ⊢
         have BK312 := n0_
         have BK329 := n1_
         have BK336 := n2_
         have HB := n3_
         clear n0_ n1_ n2_ n3_
         have n0_ := mK (kD BK312.out)
         have n1_ := mK (kD BK329.out)
         have n2_ := mK (kD BK336.out)
         have n3_ := mK (bD HB.out)
         clear BK312
         clear BK329
         clear BK336
         clear HB
         have BK312 := n0_
         have BK329 := n1_
         have BK336 := n2_
         have HB := n3_
         clear n0_ n1_ n2_ n3_
         refine start_ (n := 12) (S := fun w' => w'.cell? ⟨gb329, 0, none⟩ = some (.int .i64 t323) ∧ w'.cell? ⟨gb329, 1, none⟩ = some (.int .i64 t324) ∧ w'.cell? ⟨gb329, 2, none⟩ = some (.int .i64 t325) ∧ w'.cell? ⟨gb329, 3, none⟩ = some (.int .i64 t326) ∧ w'.cell? ⟨gb329, 4, none⟩ = some (.int .i64 t327) ∧ w'.cell? ⟨gb336, 0, none⟩ = some (.int .i64 t330) ∧ w'.cell? ⟨gb336, 1, none⟩ = some (.int .i64 t331) ∧ w'.cell? ⟨gb336, 2, none⟩ = some (.int .i64 t332) ∧ w'.cell? ⟨gb336, 3, none⟩ = some (.int .i64 t333) ∧ w'.cell? ⟨gb336, 4, none⟩ = some (.int .i64 t334)) (ds := []) #[false, false, false, false, false, false, false, false, false, false, false, false] (by kernel_rfl) rfl rfl ⟨(kC BK329.out 0).trans rfl, (kC BK329.out 1).trans rfl, (kC BK329.out 2).trans rfl, (kC BK329.out 3).trans rfl, (kC BK329.out 4).trans rfl, (kC BK336.out 0).trans rfl, (kC BK336.out 1).trans rfl, (kC BK336.out 2).trans rfl, (kC BK336.out 3).trans rfl, (kC BK336.out 4).trans rfl⟩ (fun hHeld => ?_); refine with_tabW pascalinelaw02_InstrTexts.tab11 pascalinelaw02_InstrTexts.bits11 (fun HT_ HW_ => ?_)
         generalize w39.drew = w40 at BK312 BK329 BK336 HB hHeld ⊢
         refine pure_ (i := 0) (N := some 53) (v := ?_) (a' := ?_) #[true, false, false, false, false, false, false, false, false, false, false, false] rfl rfl (any_of HT_.out (by kernel_rfl)) (fun _ _ _ h => h) (Or.inl ⟨by rfl, ?_⟩) ?_ ?_
         rotate_left
         ·
          intro w'
          go_simp
          with_reducible rfl
         rotate_left
         ·
          simp only [Act.put, List.setIfInBounds_toArray, List.set_cons_zero, List.set_cons_succ, i64_w, i32_w]
          rfl
         refine pure_ (i := 1) (N := some 54) (v := ?_) (a' := ?_) #[true, true, false, false, false, false, false, false, false, false, false, false] rfl rfl (any_of HT_.out (by kernel_rfl)) (fun _ _ _ h => h) (Or.inl ⟨by rfl, ?_⟩) ?_ ?_
         rotate_left
         ·
          intro w'
          go_simp
          with_reducible rfl
         rotate_left
         ·
          simp only [Act.put, List.setIfInBounds_toArray, List.set_cons_zero, List.set_cons_succ, i64_w, i32_w]
          rfl
         refine pure_ (i := 2) (N := some 55) (v := ?_) (a' := ?_) #[true, true, true, false, false, false, false, false, false, false, false, false] rfl rfl (any_of HT_.out (by kernel_rfl)) (fun _ _ _ h => h) (Or.inl ⟨by rfl, ?_⟩) ?_ ?_
         rotate_left
         ·
          intro w'
          go_simp
          with_reducible rfl
         rotate_left
         ·
          simp only [Act.put, List.setIfInBounds_toArray, List.set_cons_zero, List.set_cons_succ, i64_w, i32_w]
          rfl
         refine pure_ (i := 3) (N := some 56) (v := ?_) (a' := ?_) #[true, true, true, true, false, false, false, false, false, false, false, false] rfl rfl (any_of HT_.out (by kernel_rfl)) (fun _ _ _ h => h) (Or.inl ⟨by rfl, ?_⟩) ?_ ?_
         rotate_left
         ·
          intro w'
          go_simp
          with_reducible rfl
         rotate_left
         ·
          simp only [Act.put, List.setIfInBounds_toArray, List.set_cons_zero, List.set_cons_succ, i64_w, i32_w]
          rfl
         refine pure_ (i := 4) (N := some 57) (v := ?_) (a' := ?_) #[true, true, true, true, true, false, false, false, false, false, false, false] rfl rfl (any_of HT_.out (by kernel_rfl)) (fun _ _ _ h => h) (Or.inl ⟨by rfl, ?_⟩) ?_ ?_
         rotate_left
         ·
          intro w'
          go_simp
          with_reducible rfl
         rotate_left
         ·
          simp only [Act.put, List.setIfInBounds_toArray, List.set_cons_zero, List.set_cons_succ, i64_w, i32_w]
          rfl
         refine pure_ (i := 5) (N := some 58) (v := ?_) (a' := ?_) #[true, true, true, true, true, true, false, false, false, false, false, false] rfl rfl (any_of HT_.out (by kernel_rfl)) (fun _ _ _ h => h) (Or.inl ⟨by rfl, ?_⟩) ?_ ?_
         rotate_left
         ·
          intro w'
          go_simp
          with_reducible rfl
         rotate_left
         ·
          simp only [Act.put, List.setIfInBounds_toArray, List.set_cons_zero, List.set_cons_succ, i64_w, i32_w]
          rfl
         refine take_ (i := 6) (N := some 59) (v := ?_) (a' := ?_) #[true, true, true, true, true, true, true, false, false, false, false, false] rfl rfl (take_ofW HT_.out HW_.out (by kernel_rfl)) (fun _ _ _ h => h) (Or.inl ⟨by rfl, ?_⟩) hHeld ?_ ?_
         rotate_left
         ·
          rintro w' ⟨s0, s1, s2, s3, s4, s5, s6, s7, s8, s9⟩
          go_simp
          with_reducible rfl
         rotate_left
         ·
          simp only [Act.put, List.setIfInBounds_toArray, List.set_cons_zero, List.set_cons_succ, i64_w, i32_w]
          rfl
         refine take_ (i := 8) (N := some 61) (v := ?_) (a' := ?_) #[true, true, true, true, true, true, true, false, true, false, false, false] rfl rfl (take_ofW HT_.out HW_.out (by kernel_rfl)) (fun _ _ _ h => h) (Or.inl ⟨by rfl, ?_⟩) hHeld ?_ ?_
         rotate_left
         ·
          rintro w' ⟨s0, s1, s2, s3, s4, s5, s6, s7, s8, s9⟩
          go_simp
          with_reducible rfl
         rotate_left
         ·
          simp only [Act.put, List.setIfInBounds_toArray, List.set_cons_zero, List.set_cons_succ, i64_w, i32_w]
          rfl
         refine one_ (i := 7) (N := some 60) #[true, true, true, true, true, true, true, true, true, false, false, false] rfl rfl (one_of HT_.out (by kernel_rfl)) (by decide) (fun K hK => ?_)
         refine goes_ Try.func11 (by kernel_rfl) rfl #[.agg #[.int .i64 t323, .int .i64 t324, .int .i64 t325, .int .i64 t326, .int .i64 t327]] (by rfl) rfl rfl (by (try simp only [List.map_toArray, List.map_cons, List.map_nil]); first | done | rfl) ?_
         with_reducible refine (pascalinelaw02_Ref.calls t323 t324 t325 t326 t327 t337 t338 t339 t340 t341 _ A38.out).mono ?_
         rintro e w41 ⟨rfl, hb⟩
         refine ⟨_, rfl, ?_⟩
         have n0_ := mK (kB (g := gb312) (o := o5 a0_0 a0_1 a0_2 a0_3 a0_4 23) (by (with_reducible repeat (first | refine kN ?_ _ | refine kD ?_ | refine kA ?_ _)); exact BK312.out) hb)
         have n1_ := mK (kB (g := gb329) (o := o5 t323 t324 t325 t326 t327 23) (by (with_reducible repeat (first | refine kN ?_ _ | refine kD ?_ | refine kA ?_ _)); exact BK329.out) hb)
         have n2_ := mK (kB (g := gb336) (o := o5 t330 t331 t332 t333 t334 31) (by (with_reducible repeat (first | refine kN ?_ _ | refine kD ?_ | refine kA ?_ _)); exact BK336.out) hb)
         have n3_ := mK (bP (by repeat (first | (with_reducible first | exact HB.out | apply bA | apply bN | apply bD | refine bS ?_ GE312.out | refine bS ?_ GE329.out | refine bS ?_ GE336.out) | exact HB.out)) hb)
         clear BK312
         clear BK329
         clear BK336
         clear HB
         have BK312 := n0_
         have BK329 := n1_
         have BK336 := n2_
         have HB := n3_
         clear n0_ n1_ n2_ n3_
         (try clear hb)
         refine hK.out _ _ ⟨(kC BK329.out 0).trans rfl, (kC BK329.out 1).trans rfl, (kC BK329.out 2).trans rfl, (kC BK329.out 3).trans rfl, (kC BK329.out 4).trans rfl, (kC BK336.out 0).trans rfl, (kC BK336.out 1).trans rfl, (kC BK336.out 2).trans rfl, (kC BK336.out 3).trans rfl, (kC BK336.out 4).trans rfl⟩ (fun hHeld => ?_)
         clear hK K
         refine norm_ (a' := ?_) ?_ ?_
         rotate_left
         ·
          show Act.put _ (some 60) _ = _
          simp only [Act.put, List.setIfInBounds_toArray, List.set_cons_zero, List.set_cons_succ, i64_w, i32_w]
          rfl
         refine pure_ (i := 9) (N := some 62) (v := ?_) (a' := ?_) #[true, true, true, true, true, true, true, true, true, true, false, false] rfl rfl (any_of HT_.out (by kernel_rfl)) (fun _ _ _ h => h) (Or.inl ⟨by rfl, ?_⟩) ?_ ?_
         rotate_left
         ·
          intro w'
          go_simp
          with_reducible rfl
         rotate_left
         ·
          simp only [Act.put, List.setIfInBounds_toArray, List.set_cons_zero, List.set_cons_succ, i64_w, i32_w]
          rfl
         refine pure_ (i := 10) (N := some 63) (v := ?_) (a' := ?_) #[true, true, true, true, true, true, true, true, true, true, true, false] rfl rfl (any_of HT_.out (by kernel_rfl)) (fun _ _ _ h => h) (Or.inl ⟨by rfl, ?_⟩) ?_ ?_
         rotate_left
         ·
          intro w'
          go_simp
          with_reducible rfl
         rotate_left
         ·
          simp only [Act.put, List.setIfInBounds_toArray, List.set_cons_zero, List.set_cons_succ, i64_w, i32_w]
          rfl
         refine pure_ (i := 11) (N := some 64) (v := ?_) (a' := ?_) #[true, true, true, true, true, true, true, true, true, true, true, true] rfl rfl (any_of HT_.out (by kernel_rfl)) (fun _ _ _ h => h) (Or.inl ⟨by rfl, ?_⟩) ?_ ?_
         rotate_left
         ·
          intro w'
          go_simp
          with_reducible rfl
         rotate_left
         ·
          simp only [Act.put, List.setIfInBounds_toArray, List.set_cons_zero, List.set_cons_succ, i64_w, i32_w]
          rfl
         refine done_ (done_of HT_.out (by kernel_rfl)) ?_
         try go_wp2
         go_meet
         case rel => exact ⟨_, ((!(t337 == t330) || (!(t338 == t331) || (!(t339 == t332) || (!(t340 == t333) || (!(t341 == t334))))))), (by first | rfl | (simp; done) | (simp [*]; done)), H', ⟨by have := HJ11.out; first | omega | exact Nat.le_refl _⟩, ⟨by (with_reducible repeat (first | refine kN ?_ _ | refine kD ?_ | refine kA ?_ _)); exact BK312.out⟩, ⟨by (with_reducible repeat (first | refine kN ?_ _ | refine kD ?_ | refine kA ?_ _)); exact BK329.out⟩, ⟨by (with_reducible repeat (first | refine kN ?_ _ | refine kD ?_ | refine kA ?_ _)); exact BK336.out⟩, ⟨by repeat (first | (with_reducible first | exact HB.out | apply bA | apply bN | apply bD | refine bS ?_ GE312.out | refine bS ?_ GE329.out | refine bS ?_ GE336.out) | exact HB.out)⟩⟩
        ·
         replace c37 := Bool.eq_false_iff.mpr c37
         subst c37
         have H1 : (pascalinelaw02_InstrTexts.j1 kj11 t315 false a0_0 a0_1 a0_2 a0_3 a0_4) = some r := by rw [if_neg (show ¬ (false = true) by decide)] at H; exact H
         clear H
         have H := H1
         clear H1
         have H' := mK H
         clear H
         try go_wp2
         have n0_ : Aside0 ((((((w30.setCell ⟨gb336, 0, none⟩ (.int .i64 t330)).setCell ⟨gb336, 1, none⟩ (.int .i64 t331)).setCell ⟨gb336, 2, none⟩ (.int .i64 t332)).setCell ⟨gb336, 3, none⟩ (.int .i64 t333)).setCell ⟨gb336, 4, none⟩ (.int .i64 t334)).heap[gb312]? = some (o5 a0_0 a0_1 a0_2 a0_3 a0_4 23)) := ⟨by (with_reducible repeat (first | refine kN ?_ _ | refine kD ?_ | refine kA ?_ _)); refine kR ?_ NB312_336.out _; (with_reducible repeat (first | refine kN ?_ _ | refine kD ?_ | refine kA ?_ _)); refine kR ?_ NB312_336.out _; (with_reducible repeat (first | refine kN ?_ _ | refine kD ?_ | refine kA ?_ _)); refine kR ?_ NB312_336.out _; (with_reducible repeat (first | refine kN ?_ _ | refine kD ?_ | refine kA ?_ _)); refine kR ?_ NB312_336.out _; (with_reducible repeat (first | refine kN ?_ _ | refine kD ?_ | refine kA ?_ _)); refine kR ?_ NB312_336.out _; (with_reducible repeat (first | refine kN ?_ _ | refine kD ?_ | refine kA ?_ _)); exact BK312.out⟩
         have n1_ : Aside0 ((((((w30.setCell ⟨gb336, 0, none⟩ (.int .i64 t330)).setCell ⟨gb336, 1, none⟩ (.int .i64 t331)).setCell ⟨gb336, 2, none⟩ (.int .i64 t332)).setCell ⟨gb336, 3, none⟩ (.int .i64 t333)).setCell ⟨gb336, 4, none⟩ (.int .i64 t334)).heap[gb329]? = some (o5 t323 t324 t325 t326 t327 23)) := ⟨by (with_reducible repeat (first | refine kN ?_ _ | refine kD ?_ | refine kA ?_ _)); refine kR ?_ NB329_336.out _; (with_reducible repeat (first | refine kN ?_ _ | refine kD ?_ | refine kA ?_ _)); refine kR ?_ NB329_336.out _; (with_reducible repeat (first | refine kN ?_ _ | refine kD ?_ | refine kA ?_ _)); refine kR ?_ NB329_336.out _; (with_reducible repeat (first | refine kN ?_ _ | refine kD ?_ | refine kA ?_ _)); refine kR ?_ NB329_336.out _; (with_reducible repeat (first | refine kN ?_ _ | refine kD ?_ | refine kA ?_ _)); refine kR ?_ NB329_336.out _; (with_reducible repeat (first | refine kN ?_ _ | refine kD ?_ | refine kA ?_ _)); exact BK329.out⟩
         have n2_ : Aside0 ((((((w30.setCell ⟨gb336, 0, none⟩ (.int .i64 t330)).setCell ⟨gb336, 1, none⟩ (.int .i64 t331)).setCell ⟨gb336, 2, none⟩ (.int .i64 t332)).setCell ⟨gb336, 3, none⟩ (.int .i64 t333)).setCell ⟨gb336, 4, none⟩ (.int .i64 t334)).heap[gb336]? = some (o5 t330 t331 t332 t333 t334 31)) := ⟨by (with_reducible repeat (first | refine kN ?_ _ | refine kD ?_ | refine kA ?_ _)); refine kP (cs := #[.int .i64 t330, .int .i64 t331, .int .i64 t332, .int .i64 t333, .int .i64 0]) ?_ 4 _ rfl; (with_reducible repeat (first | refine kN ?_ _ | refine kD ?_ | refine kA ?_ _)); refine kP (cs := #[.int .i64 t330, .int .i64 t331, .int .i64 t332, .int .i64 0, .int .i64 0]) ?_ 3 _ rfl; (with_reducible repeat (first | refine kN ?_ _ | refine kD ?_ | refine kA ?_ _)); refine kP (cs := #[.int .i64 t330, .int .i64 t331, .int .i64 0, .int .i64 0, .int .i64 0]) ?_ 2 _ rfl; (with_reducible repeat (first | refine kN ?_ _ | refine kD ?_ | refine kA ?_ _)); refine kP (cs := #[.int .i64 t330, .int .i64 0, .int .i64 0, .int .i64 0, .int .i64 0]) ?_ 1 _ rfl; (with_reducible repeat (first | refine kN ?_ _ | refine kD ?_ | refine kA ?_ _)); refine kP (cs := #[.int .i64 0, .int .i64 0, .int .i64 0, .int .i64 0, .int .i64 0]) ?_ 0 _ rfl; (with_reducible repeat (first | refine kN ?_ _ | refine kD ?_ | refine kA ?_ _)); exact BK336.out⟩
         have n3_ : Aside0 (Below w.heap.size w (((((w30.setCell ⟨gb336, 0, none⟩ (.int .i64 t330)).setCell ⟨gb336, 1, none⟩ (.int .i64 t331)).setCell ⟨gb336, 2, none⟩ (.int .i64 t332)).setCell ⟨gb336, 3, none⟩ (.int .i64 t333)).setCell ⟨gb336, 4, none⟩ (.int .i64 t334))) := ⟨by repeat (first | (with_reducible first | exact HB.out | apply bA | apply bN | apply bD | refine bS ?_ GE312.out | refine bS ?_ GE329.out | refine bS ?_ GE336.out) | exact HB.out)⟩
         (try clear BK312)
         (try clear BK329)
         (try clear BK336)
         (try clear HB)
         generalize (((((w30.setCell ⟨gb336, 0, none⟩ (.int .i64 t330)).setCell ⟨gb336, 1, none⟩ (.int .i64 t331)).setCell ⟨gb336, 2, none⟩ (.int .i64 t332)).setCell ⟨gb336, 3, none⟩ (.int .i64 t333)).setCell ⟨gb336, 4, none⟩ (.int .i64 t334)) = w42 at n0_ n1_ n2_ n3_ ⊢
         have BK312 := n0_
         have BK329 := n1_
         have BK336 := n2_
         have HB := n3_
         clear n0_ n1_ n2_ n3_
         have n0_ := mK (kD BK312.out)
         have n1_ := mK (kD BK329.out)
         have n2_ := mK (kD BK336.out)
         have n3_ := mK (bD HB.out)
         clear BK312
         clear BK329
         clear BK336
         clear HB
         have BK312 := n0_
         have BK329 := n1_
         have BK336 := n2_
         have HB := n3_
         clear n0_ n1_ n2_ n3_
         refine start_ (n := 12) (S := fun w' => True) (ds := []) #[false, false, false, false, false, false, false, false, false, false, false, false] (by kernel_rfl) rfl rfl trivial (fun hHeld => ?_); refine with_tabW pascalinelaw02_InstrTexts.tab11 pascalinelaw02_InstrTexts.bits11 (fun HT_ HW_ => ?_)
         generalize w42.drew = w43 at BK312 BK329 BK336 HB hHeld ⊢
         refine pure_ (i := 0) (N := some 53) (v := ?_) (a' := ?_) #[true, false, false, false, false, false, false, false, false, false, false, false] rfl rfl (any_of HT_.out (by kernel_rfl)) (fun _ _ _ h => h) (Or.inl ⟨by rfl, ?_⟩) ?_ ?_
         rotate_left
         ·
          intro w'
          go_simp
          with_reducible rfl
         rotate_left
         ·
          simp only [Act.put, List.setIfInBounds_toArray, List.set_cons_zero, List.set_cons_succ, i64_w, i32_w]
          rfl
         refine pure_ (i := 1) (N := some 54) (v := ?_) (a' := ?_) #[true, true, false, false, false, false, false, false, false, false, false, false] rfl rfl (any_of HT_.out (by kernel_rfl)) (fun _ _ _ h => h) (Or.inl ⟨by rfl, ?_⟩) ?_ ?_
         rotate_left
         ·
          intro w'
          go_simp
          with_reducible rfl
         rotate_left
         ·
          simp only [Act.put, List.setIfInBounds_toArray, List.set_cons_zero, List.set_cons_succ, i64_w, i32_w]
          rfl
         refine pure_ (i := 2) (N := some 55) (v := ?_) (a' := ?_) #[true, true, true, false, false, false, false, false, false, false, false, false] rfl rfl (any_of HT_.out (by kernel_rfl)) (fun _ _ _ h => h) (Or.inl ⟨by rfl, ?_⟩) ?_ ?_
         rotate_left
         ·
          intro w'
          go_simp
          with_reducible rfl
         rotate_left
         ·
          simp only [Act.put, List.setIfInBounds_toArray, List.set_cons_zero, List.set_cons_succ, i64_w, i32_w]
          rfl
         refine pure_ (i := 3) (N := some 56) (v := ?_) (a' := ?_) #[true, true, true, true, false, false, false, false, false, false, false, false] rfl rfl (any_of HT_.out (by kernel_rfl)) (fun _ _ _ h => h) (Or.inl ⟨by rfl, ?_⟩) ?_ ?_
         rotate_left
         ·
          intro w'
          go_simp
          with_reducible rfl
         rotate_left
         ·
          simp only [Act.put, List.setIfInBounds_toArray, List.set_cons_zero, List.set_cons_succ, i64_w, i32_w]
          rfl
         refine pure_ (i := 4) (N := some 57) (v := ?_) (a' := ?_) #[true, true, true, true, true, false, false, false, false, false, false, false] rfl rfl (any_of HT_.out (by kernel_rfl)) (fun _ _ _ h => h) (Or.inl ⟨by rfl, ?_⟩) ?_ ?_
         rotate_left
         ·
          intro w'
          go_simp
          with_reducible rfl
         rotate_left
         ·
          simp only [Act.put, List.setIfInBounds_toArray, List.set_cons_zero, List.set_cons_succ, i64_w, i32_w]
          rfl
         refine pure_ (i := 5) (N := some 58) (v := ?_) (a' := ?_) #[true, true, true, true, true, true, false, false, false, false, false, false] rfl rfl (any_of HT_.out (by kernel_rfl)) (fun _ _ _ h => h) (Or.inl ⟨by rfl, ?_⟩) ?_ ?_
         rotate_left
         ·
          intro w'
          go_simp
          with_reducible rfl
         rotate_left
         ·
          simp only [Act.put, List.setIfInBounds_toArray, List.set_cons_zero, List.set_cons_succ, i64_w, i32_w]
          rfl
         refine pure_ (i := 6) (N := some 59) (v := undef) (a' := ?_) #[true, true, true, true, true, true, true, false, false, false, false, false] rfl rfl (any_of HT_.out (by kernel_rfl)) (fun _ _ _ h => h) (Or.inr ⟨by rfl, rfl⟩) ?_ ?_
         rotate_left
         ·
          simp only [Act.put, List.setIfInBounds_toArray, List.set_cons_zero, List.set_cons_succ, i64_w, i32_w]
          rfl
         refine pure_ (i := 7) (N := some 60) (v := undef) (a' := ?_) #[true, true, true, true, true, true, true, true, false, false, false, false] rfl rfl (any_of HT_.out (by kernel_rfl)) (fun _ _ _ h => h) (Or.inr ⟨by rfl, rfl⟩) ?_ ?_
         rotate_left
         ·
          simp only [Act.put, List.setIfInBounds_toArray, List.set_cons_zero, List.set_cons_succ, i64_w, i32_w]
          rfl
         refine pure_ (i := 8) (N := some 61) (v := undef) (a' := ?_) #[true, true, true, true, true, true, true, true, true, false, false, false] rfl rfl (any_of HT_.out (by kernel_rfl)) (fun _ _ _ h => h) (Or.inr ⟨by rfl, rfl⟩) ?_ ?_
         rotate_left
         ·
          simp only [Act.put, List.setIfInBounds_toArray, List.set_cons_zero, List.set_cons_succ, i64_w, i32_w]
          rfl
         refine pure_ (i := 9) (N := some 62) (v := undef) (a' := ?_) #[true, true, true, true, true, true, true, true, true, true, false, false] rfl rfl (any_of HT_.out (by kernel_rfl)) (fun _ _ _ h => h) (Or.inr ⟨by rfl, rfl⟩) ?_ ?_
         rotate_left
         ·
          simp only [Act.put, List.setIfInBounds_toArray, List.set_cons_zero, List.set_cons_succ, i64_w, i32_w]
          rfl
         refine pure_ (i := 10) (N := some 63) (v := ?_) (a' := ?_) #[true, true, true, true, true, true, true, true, true, true, true, false] rfl rfl (any_of HT_.out (by kernel_rfl)) (fun _ _ _ h => h) (Or.inl ⟨by rfl, ?_⟩) ?_ ?_
         rotate_left
         ·
          intro w'
          go_simp
          with_reducible rfl
         rotate_left
         ·
          simp only [Act.put, List.setIfInBounds_toArray, List.set_cons_zero, List.set_cons_succ, i64_w, i32_w]
          rfl
         refine pure_ (i := 11) (N := some 64) (v := ?_) (a' := ?_) #[true, true, true, true, true, true, true, true, true, true, true, true] rfl rfl (any_of HT_.out (by kernel_rfl)) (fun _ _ _ h => h) (Or.inl ⟨by rfl, ?_⟩) ?_ ?_
         rotate_left
         ·
          intro w'
          go_simp
          with_reducible rfl
         rotate_left
         ·
          simp only [Act.put, List.setIfInBounds_toArray, List.set_cons_zero, List.set_cons_succ, i64_w, i32_w]
          rfl
         refine done_ (done_of HT_.out (by kernel_rfl)) ?_
         try go_wp2
         go_meet
         case rel => exact ⟨_, (false), (by first | rfl | (simp; done) | (simp [*]; done)), H', ⟨by have := HJ11.out; first | omega | exact Nat.le_refl _⟩, ⟨by (with_reducible repeat (first | refine kN ?_ _ | refine kD ?_ | refine kA ?_ _)); exact BK312.out⟩, ⟨by (with_reducible repeat (first | refine kN ?_ _ | refine kD ?_ | refine kA ?_ _)); exact BK329.out⟩, ⟨by (with_reducible repeat (first | refine kN ?_ _ | refine kD ?_ | refine kA ?_ _)); exact BK336.out⟩, ⟨by repeat (first | (with_reducible first | exact HB.out | apply bA | apply bN | apply bD | refine bS ?_ GE312.out | refine bS ?_ GE329.out | refine bS ?_ GE336.out) | exact HB.out)⟩⟩
      case rest =>
       clear HC24
       (try clear c2); (try clear c5); (try clear c6); (try clear c6b0); (try clear c6b1); (try clear c21); (try clear hcz15_0); (try clear hcz15_1); (try clear hcz15_2); (try clear hcz15_3); (try clear hcz15_4); (try clear hcz17_0); (try clear hcz17_1); (try clear hcz17_2); (try clear hcz17_3); (try clear hcz17_4); (try clear hcz28_0); (try clear hcz28_1); (try clear hcz28_2); (try clear hcz28_3); (try clear hcz28_4); (try clear hcz33_0); (try clear hcz33_1); (try clear hcz33_2); (try clear hcz33_3); (try clear hcz33_4); (try clear hfz15_0); (try clear hfz15_1); (try clear hfz15_2); (try clear hfz15_3); (try clear hfz15_4); (try clear hfz17_0); (try clear hfz17_1); (try clear hfz17_2); (try clear hfz17_3); (try clear hfz17_4); (try clear hfz28_0); (try clear hfz28_1); (try clear hfz28_2); (try clear hfz28_3); (try clear hfz28_4); (try clear hfz33_0); (try clear hfz33_1); (try clear hfz33_2); (try clear hfz33_3); (try clear hfz33_4)
       obtain ⟨kq, x64_23, rfl, HA, HJ23, BK312, BK329, BK336, HB⟩ := hcut
       cases kq with
       | zero => exact absurd HA.out (by simp [pascalinelaw02_InstrTexts.j1])
       | succ kj23 =>
        have H := HA.out
        clear HA
        simp only [pascalinelaw02_InstrTexts.j1] at H
        by_cases c44 : x64_23 = true
        ·
         subst c44
         have H1 : (some false) = some r := by rw [if_pos rfl] at H; exact H
         clear H
         have H := H1
         clear H1
         obtain rfl := Option.some.inj H
         go_wp2
         go_ret
         exact ⟨by first | rfl | (simp [errW_none, errW_some] <;> rfl) | (simp [*, errW_none, errW_some] <;> rfl), by repeat (first | (with_reducible first | exact HB.out | apply bA | apply bN | apply bD | refine bS ?_ GE312.out | refine bS ?_ GE329.out | refine bS ?_ GE336.out) | exact HB.out)⟩
        ·
         replace c44 := Bool.eq_false_iff.mpr c44
         subst c44
         have H1 : (if t315 = 0 then ((pascalinelaw02_Ref.f a0_0 a0_1 a0_2 a0_3 a0_4).bind fun bt342 => ((pascalineref02_Fields.f kj23 bt342.1 bt342.2.1 bt342.2.2.1 bt342.2.2.2.1 bt342.2.2.2.2).bind fun t347 => ((instr_Fill.f kj23 a0_0 t347).bind fun bt350 => (if bt350.2.2.2.2.2 = true then (some (bt350.1 == a0_0 && (bt350.2.1 == a0_1 && (bt350.2.2.1 == a0_2 && (bt350.2.2.2.1 == a0_3 && (bt350.2.2.2.2.1 == a0_4)))))) else (some false))))) else (some true)) = some r := by rw [if_neg (show ¬ (false = true) by decide)] at H; exact H
         clear H
         have H := H1
         clear H1
         by_cases c45 : t315 = 0
         ·
          rw [if_pos c45] at H
          have c45b0 : (t315 == 0) = true := beq_iff_eq.mpr c45
          have c45b1 : (t315 != 0) = false := bR c45
          clear c45
          replace H := oB H
          obtain ⟨⟨t342, t343, t344, t345, t346⟩, A460, H⟩ := H
          replace H : ((pascalineref02_Fields.f kj23 t342 t343 t344 t345 t346).bind fun t347 => ((instr_Fill.f kj23 a0_0 t347).bind fun bt350 => (if bt350.2.2.2.2.2 = true then (some (bt350.1 == a0_0 && (bt350.2.1 == a0_1 && (bt350.2.2.1 == a0_2 && (bt350.2.2.2.1 == a0_3 && (bt350.2.2.2.2.1 == a0_4)))))) else (some false)))) = some r := H
          have A46 := mK A460
          clear A460
          replace H := oB H
          obtain ⟨t347, A470, H⟩ := H
          replace H : ((instr_Fill.f kj23 a0_0 t347).bind fun bt350 => (if bt350.2.2.2.2.2 = true then (some (bt350.1 == a0_0 && (bt350.2.1 == a0_1 && (bt350.2.2.1 == a0_2 && (bt350.2.2.2.1 == a0_3 && (bt350.2.2.2.2.1 == a0_4)))))) else (some false))) = some r := H
          have A47 := mK A470
          clear A470
          replace H := oB H
          obtain ⟨⟨t350, t351, t352, t353, t354, t355⟩, A480, H⟩ := H
          replace H : (if t355 = true then (some (t350 == a0_0 && (t351 == a0_1 && (t352 == a0_2 && (t353 == a0_3 && (t354 == a0_4)))))) else (some false)) = some r := H
          have A48 := mK A480
          clear A480
          by_cases c49 : t355 = true
          ·
           subst c49
           have H1 : (some (t350 == a0_0 && (t351 == a0_1 && (t352 == a0_2 && (t353 == a0_3 && (t354 == a0_4)))))) = some r := by rw [if_pos rfl] at H; exact H
           clear H
           have H := H1
           clear H1
           obtain rfl := Option.some.inj H
           try go_wp2
           have n0_ := mK (kD BK312.out)
           have n1_ := mK (kD BK329.out)
           have n2_ := mK (kD BK336.out)
           have n3_ := mK (bD HB.out)
           clear BK312
           clear BK329
           clear BK336
           clear HB
           have BK312 := n0_
           have BK329 := n1_
           have BK336 := n2_
           have HB := n3_
           clear n0_ n1_ n2_ n3_
           refine start_ (n := 12) (S := fun w' => w'.cell? ⟨gb312, 0, none⟩ = some (.int .i64 a0_0) ∧ w'.cell? ⟨gb312, 1, none⟩ = some (.int .i64 a0_1) ∧ w'.cell? ⟨gb312, 2, none⟩ = some (.int .i64 a0_2) ∧ w'.cell? ⟨gb312, 3, none⟩ = some (.int .i64 a0_3) ∧ w'.cell? ⟨gb312, 4, none⟩ = some (.int .i64 a0_4)) (ds := []) #[false, false, false, false, false, false, false, false, false, false, false, false] (by kernel_rfl) rfl rfl ⟨(kC BK312.out 0).trans rfl, (kC BK312.out 1).trans rfl, (kC BK312.out 2).trans rfl, (kC BK312.out 3).trans rfl, (kC BK312.out 4).trans rfl⟩ (fun hHeld => ?_); refine with_tabW pascalinelaw02_InstrTexts.tab15 pascalinelaw02_InstrTexts.bits15 (fun HT_ HW_ => ?_)
           generalize wc.drew = w50 at BK312 BK329 BK336 HB hHeld ⊢
           refine pure_ (i := 0) (N := some 68) (v := ?_) (a' := ?_) #[true, false, false, false, false, false, false, false, false, false, false, false] rfl rfl (any_of HT_.out (by kernel_rfl)) (fun _ _ _ h => h) (Or.inl ⟨by rfl, ?_⟩) ?_ ?_
           rotate_left
           ·
            intro w'
            go_simp
            with_reducible rfl
           rotate_left
           ·
            simp only [Act.put, List.setIfInBounds_toArray, List.set_cons_zero, List.set_cons_succ, i64_w, i32_w]
            rfl
           refine take_ (i := 1) (N := some 69) (v := ?_) (a' := ?_) #[true, true, false, false, false, false, false, false, false, false, false, false] rfl rfl (take_ofW HT_.out HW_.out (by kernel_rfl)) (fun _ _ _ h => h) (Or.inl ⟨by rfl, ?_⟩) hHeld ?_ ?_
           rotate_left
           ·
            rintro w' ⟨s0, s1, s2, s3, s4⟩
            go_simp
            with_reducible rfl
           rotate_left
           ·
            simp only [Act.put, List.setIfInBounds_toArray, List.set_cons_zero, List.set_cons_succ, i64_w, i32_w]
            rfl
           refine take_ (i := 2) (N := some 70) (v := ?_) (a' := ?_) #[true, true, true, false, false, false, false, false, false, false, false, false] rfl rfl (take_ofW HT_.out HW_.out (by kernel_rfl)) (fun _ _ _ h => h) (Or.inl ⟨by rfl, ?_⟩) hHeld ?_ ?_
           rotate_left
           ·
            rintro w' ⟨s0, s1, s2, s3, s4⟩
            go_simp
            with_reducible rfl
           rotate_left
           ·
            simp only [Act.put, List.setIfInBounds_toArray, List.set_cons_zero, List.set_cons_succ, i64_w, i32_w]
            rfl
           refine join_ (σ := Value × Nat) 2 #[true, true, true, true, true, true, true, true, true, true, false, false] (fun s_ => [(71, .agg #[.int .i64 t342, .int .i64 t343, .int .i64 t344, .int .i64 t345, .int .i64 t346]), (72, s_.1), (73, .tuple #[.agg #[.int .i64 t350, .int .i64 t351, .int .i64 t352, .int .i64 t353, .int .i64 t354], .bool true]), (15, .pointer (some ⟨s_.2, 0, none⟩)), (67, .tuple #[.agg #[.int .i64 t350, .int .i64 t351, .int .i64 t352, .int .i64 t353, .int .i64 t354], .bool true]), (74, .agg #[.int .i64 t350, .int .i64 t351, .int .i64 t352, .int .i64 t353, .int .i64 t354]), (75, .bool true)]) (fun s_ w' => (w'.cell? ⟨gb312, 0, none⟩ = some (.int .i64 a0_0) ∧ w'.cell? ⟨gb312, 1, none⟩ = some (.int .i64 a0_1) ∧ w'.cell? ⟨gb312, 2, none⟩ = some (.int .i64 a0_2) ∧ w'.cell? ⟨gb312, 3, none⟩ = some (.int .i64 a0_3) ∧ w'.cell? ⟨gb312, 4, none⟩ = some (.int .i64 a0_4)) ∧ (Kd.R Kd.string 9 w' w.heap.size (fun _ => True) s_.1 t347) ∧ (w'.heap[gb312]? = some (o5 a0_0 a0_1 a0_2 a0_3 a0_4 23)) ∧ (w'.heap[gb329]? = some (o5 t323 t324 t325 t326 t327 23)) ∧ (w'.heap[gb336]? = some (o5 t330 t331 t332 t333 t334 31)) ∧ (w'.heap[s_.2]? = some (o5 0 0 0 0 0 23)) ∧ (w.heap.size ≤ s_.2) ∧ (w.heap.size ≤ s_.2) ∧ (gb312 ≠ s_.2) ∧ (s_.2 ≠ gb312) ∧ (gb329 ≠ s_.2) ∧ (s_.2 ≠ gb329) ∧ (gb336 ≠ s_.2) ∧ (s_.2 ≠ gb336) ∧ (Below w.heap.size w w')) ?_ ?_
           rotate_left
           ·
            intro hCont
            refine two_ (i := 3) (j := 9) (Ni := some 71) (Nj := some 15) #[true, true, true, true, false, false, false, false, false, false, false, false] #[true, true, true, false, false, false, false, false, false, true, false, false] rfl rfl rfl rfl (two_of HT_.out (by kernel_rfl)) (by decide) (by decide) (fun K hK => ?_) (fun K hK => ?_)
            ·
             skip
             refine goes_ Try.func11 (by kernel_rfl) rfl #[.agg #[.int .i64 a0_0, .int .i64 a0_1, .int .i64 a0_2, .int .i64 a0_3, .int .i64 a0_4]] (by rfl) rfl rfl (by (try simp only [List.map_toArray, List.map_cons, List.map_nil]); first | done | rfl) ?_
             with_reducible refine (pascalinelaw02_Ref.calls a0_0 a0_1 a0_2 a0_3 a0_4 t342 t343 t344 t345 t346 _ A46.out).mono ?_
             rintro e w51 ⟨rfl, hb⟩
             refine ⟨_, rfl, ?_⟩
             have n0_ := mK (kB (g := gb312) (o := o5 a0_0 a0_1 a0_2 a0_3 a0_4 23) (by (with_reducible repeat (first | refine kN ?_ _ | refine kD ?_ | refine kA ?_ _)); exact BK312.out) hb)
             have n1_ := mK (kB (g := gb329) (o := o5 t323 t324 t325 t326 t327 23) (by (with_reducible repeat (first | refine kN ?_ _ | refine kD ?_ | refine kA ?_ _)); exact BK329.out) hb)
             have n2_ := mK (kB (g := gb336) (o := o5 t330 t331 t332 t333 t334 31) (by (with_reducible repeat (first | refine kN ?_ _ | refine kD ?_ | refine kA ?_ _)); exact BK336.out) hb)
             have n3_ := mK (bP (by repeat (first | (with_reducible first | exact HB.out | apply bA | apply bN | apply bD | refine bS ?_ GE312.out | refine bS ?_ GE329.out | refine bS ?_ GE336.out) | exact HB.out)) hb)
             clear BK312
             clear BK329
             clear BK336
             clear HB
             have BK312 := n0_
             have BK329 := n1_
             have BK336 := n2_
             have HB := n3_
             clear n0_ n1_ n2_ n3_
             (try clear hb)
             refine hK.out _ _ ⟨(kC BK312.out 0).trans rfl, (kC BK312.out 1).trans rfl, (kC BK312.out 2).trans rfl, (kC BK312.out 3).trans rfl, (kC BK312.out 4).trans rfl⟩ (fun hHeld => ?_)
             clear hK K
             refine norm_ (a' := ?_) ?_ ?_
             rotate_left
             ·
              show Act.put _ (some 71) _ = _
              simp only [Act.put, List.setIfInBounds_toArray, List.set_cons_zero, List.set_cons_succ, i64_w, i32_w]
              rfl
             refine two_ (i := 4) (j := 9) (Ni := some 72) (Nj := some 15) #[true, true, true, true, true, false, false, false, false, false, false, false] #[true, true, true, true, false, false, false, false, false, true, false, false] rfl rfl rfl rfl (two_of HT_.out (by kernel_rfl)) (by decide) (by decide) (fun K hK => ?_) (fun K hK => ?_)
             ·
              skip
              refine goes_ Try.func24 (by kernel_rfl) rfl #[.agg #[.int .i64 t342, .int .i64 t343, .int .i64 t344, .int .i64 t345, .int .i64 t346]] (by rfl) rfl rfl (by (try simp only [List.map_toArray, List.map_cons, List.map_nil]); first | done | rfl) ?_
              with_reducible refine (pascalineref02_Fields.calls kj23 t342 t343 t344 t345 t346 t347 _ A47.out).mono ?_
              rintro e w52 ⟨v348, rfl, ho0, hb⟩
              refine ⟨_, rfl, ?_⟩
              have n0_ := mK (Kd.R_lower ho0 (bZ (by repeat (first | (with_reducible first | exact HB.out | apply bA | apply bN | apply bD | refine bS ?_ GE312.out | refine bS ?_ GE329.out | refine bS ?_ GE336.out) | exact HB.out))))
              have n1_ := mK (kB (g := gb312) (o := o5 a0_0 a0_1 a0_2 a0_3 a0_4 23) (by (with_reducible repeat (first | refine kN ?_ _ | refine kD ?_ | refine kA ?_ _)); exact BK312.out) hb)
              have n2_ := mK (kB (g := gb329) (o := o5 t323 t324 t325 t326 t327 23) (by (with_reducible repeat (first | refine kN ?_ _ | refine kD ?_ | refine kA ?_ _)); exact BK329.out) hb)
              have n3_ := mK (kB (g := gb336) (o := o5 t330 t331 t332 t333 t334 31) (by (with_reducible repeat (first | refine kN ?_ _ | refine kD ?_ | refine kA ?_ _)); exact BK336.out) hb)
              have n4_ := mK (bP (by repeat (first | (with_reducible first | exact HB.out | apply bA | apply bN | apply bD | refine bS ?_ GE312.out | refine bS ?_ GE329.out | refine bS ?_ GE336.out) | exact HB.out)) hb)
              clear BK312
              clear BK329
              clear BK336
              clear HB
              have HO349 := n0_
              have BK312 := n1_
              have BK329 := n2_
              have BK336 := n3_
              have HB := n4_
              clear n0_ n1_ n2_ n3_ n4_
              (try clear hb)
              (try clear ho0)
              obtain ⟨Ao53, co53, eo53⟩ := Kd.R_slice HO349.out
              (first | subst eo53 | (injection eo53 with f1_ f2_ f3_; have f4_ := f1_.symm; have f5_ := f3_.symm; clear f1_ f2_ f3_; subst f4_; subst f5_))
              refine hK.out _ _ ⟨(kC BK312.out 0).trans rfl, (kC BK312.out 1).trans rfl, (kC BK312.out 2).trans rfl, (kC BK312.out 3).trans rfl, (kC BK312.out 4).trans rfl⟩ (fun hHeld => ?_)
              clear hK K
              refine norm_ (a' := ?_) ?_ ?_
              rotate_left
              ·
               show Act.put _ (some 72) _ = _
               simp only [Act.put, List.setIfInBounds_toArray, List.set_cons_zero, List.set_cons_succ, i64_w, i32_w]
               rfl
              refine two_ (i := 5) (j := 9) (Ni := some 73) (Nj := some 15) #[true, true, true, true, true, true, false, false, false, false, false, false] #[true, true, true, true, true, false, false, false, false, true, false, false] rfl rfl rfl rfl (two_of HT_.out (by kernel_rfl)) (by decide) (by decide) (fun K hK => ?_) (fun K hK => ?_)
              ·
               skip
               refine goes_ Try.func22 (by kernel_rfl) rfl #[.int .i64 a0_0, .slice Ao53 t347.length co53] (by rfl) rfl rfl (by (try simp only [List.map_toArray, List.map_cons, List.map_nil]); first | done | rfl) ?_
               with_reducible refine (instr_Fill.calls kj23 a0_0 _ _ t347 t350 t351 t352 t353 t354 true _ ?side1 ?side2 A48.out).mono ?_
               (case side1 => repeat (first | exact (Kd.R_reads' HO349.out).2.2 | (with_reducible refine Kd.C_alloc ?_ _) | (with_reducible refine Kd.C_drewN ?_ _) | (with_reducible refine Kd.C_drew ?_)))
               (case side2 => exact (Kd.R_reads' HO349.out).2.1)
               rintro e w54 ⟨rfl, hb⟩
               refine ⟨_, rfl, ?_⟩
               have n0_ := mK (Kd.R_below (by (with_reducible repeat (first | apply Kd.R_alloc | apply Kd.R_drewN | apply Kd.R_drew)); exact HO349.out) hb)
               have n1_ := mK (kB (g := gb312) (o := o5 a0_0 a0_1 a0_2 a0_3 a0_4 23) (by (with_reducible repeat (first | refine kN ?_ _ | refine kD ?_ | refine kA ?_ _)); exact BK312.out) hb)
               have n2_ := mK (kB (g := gb329) (o := o5 t323 t324 t325 t326 t327 23) (by (with_reducible repeat (first | refine kN ?_ _ | refine kD ?_ | refine kA ?_ _)); exact BK329.out) hb)
               have n3_ := mK (kB (g := gb336) (o := o5 t330 t331 t332 t333 t334 31) (by (with_reducible repeat (first | refine kN ?_ _ | refine kD ?_ | refine kA ?_ _)); exact BK336.out) hb)
               have n4_ := mK (bP (by repeat (first | (with_reducible first | exact HB.out | apply bA | apply bN | apply bD | refine bS ?_ GE312.out | refine bS ?_ GE329.out | refine bS ?_ GE336.out) | exact HB.out)) hb)
               clear HO349
               clear BK312
               clear BK329
               clear BK336
               clear HB
               have HO349 := n0_
               have BK312 := n1_
               have BK329 := n2_
               have BK336 := n3_
               have HB := n4_
               clear n0_ n1_ n2_ n3_ n4_
               (try clear hb)
               refine hK.out _ _ ⟨(kC BK312.out 0).trans rfl, (kC BK312.out 1).trans rfl, (kC BK312.out 2).trans rfl, (kC BK312.out 3).trans rfl, (kC BK312.out 4).trans rfl⟩ (fun hHeld => ?_)
               clear hK K
               refine norm_ (a' := ?_) ?_ ?_
               rotate_left
               ·
                show Act.put _ (some 73) _ = _
                simp only [Act.put, List.setIfInBounds_toArray, List.set_cons_zero, List.set_cons_succ, i64_w, i32_w]
                rfl
               refine pure_ (i := 6) (N := some 67) (v := ?_) (a' := ?_) #[true, true, true, true, true, true, true, false, false, false, false, false] rfl rfl (any_of HT_.out (by kernel_rfl)) (fun _ _ _ h => h) (Or.inl ⟨by rfl, ?_⟩) ?_ ?_
               rotate_left
               ·
                intro w'
                go_simp
                with_reducible rfl
               rotate_left
               ·
                simp only [Act.put, List.setIfInBounds_toArray, List.set_cons_zero, List.set_cons_succ, i64_w, i32_w]
                rfl
               refine pure_ (i := 7) (N := some 74) (v := ?_) (a' := ?_) #[true, true, true, true, true, true, true, true, false, false, false, false] rfl rfl (any_of HT_.out (by kernel_rfl)) (fun _ _ _ h => h) (Or.inl ⟨by rfl, ?_⟩) ?_ ?_
               rotate_left
               ·
                intro w'
                go_simp
                with_reducible rfl
               rotate_left
               ·
                simp only [Act.put, List.setIfInBounds_toArray, List.set_cons_zero, List.set_cons_succ, i64_w, i32_w]
                rfl
               refine pure_ (i := 8) (N := some 75) (v := ?_) (a' := ?_) #[true, true, true, true, true, true, true, true, true, false, false, false] rfl rfl (any_of HT_.out (by kernel_rfl)) (fun _ _ _ h => h) (Or.inl ⟨by rfl, ?_⟩) ?_ ?_
               rotate_left
               ·
                intro w'
                go_simp
                with_reducible rfl
               rotate_left
               ·
                simp only [Act.put, List.setIfInBounds_toArray, List.set_cons_zero, List.set_cons_succ, i64_w, i32_w]
                rfl
               refine one_ (i := 9) (N := some 15) #[true, true, true, true, true, true, true, true, true, true, false, false] rfl rfl (one_of HT_.out (by kernel_rfl)) (by decide) (fun K hK => ?_)
               refine box_step ?hg (N := 15) ?hd (cs := #[.int .i64 0, .int .i64 0, .int .i64 0, .int .i64 0, .int .i64 0]) (t := 23) ?hr ?_; (case hd => rfl); (case hg => rfl); (case hr => first | (go_simp; done) | (go_simp; rfl))
               intro gb356 hg w55 hbox hb
               have n0_ := mK (Kd.R_below (by (with_reducible repeat (first | apply Kd.R_alloc | apply Kd.R_drewN | apply Kd.R_drew)); exact HO349.out) hb)
               have n1_ := mK (kB (g := gb312) (o := o5 a0_0 a0_1 a0_2 a0_3 a0_4 23) (by (with_reducible repeat (first | refine kN ?_ _ | refine kD ?_ | refine kA ?_ _)); exact BK312.out) hb)
               have n2_ := mK (kB (g := gb329) (o := o5 t323 t324 t325 t326 t327 23) (by (with_reducible repeat (first | refine kN ?_ _ | refine kD ?_ | refine kA ?_ _)); exact BK329.out) hb)
               have n3_ := mK (kB (g := gb336) (o := o5 t330 t331 t332 t333 t334 31) (by (with_reducible repeat (first | refine kN ?_ _ | refine kD ?_ | refine kA ?_ _)); exact BK336.out) hb)
               have n4_ := mK (bP (by repeat (first | (with_reducible first | exact HB.out | apply bA | apply bN | apply bD | refine bS ?_ GE312.out | refine bS ?_ GE329.out | refine bS ?_ GE336.out) | exact HB.out)) hb)
               have n5_ := mK (hbox)
               have n6_ := mK ((by rw [hg]; exact (bZ (by repeat (first | (with_reducible first | exact HB.out | apply bA | apply bN | apply bD | refine bS ?_ GE312.out | refine bS ?_ GE329.out | refine bS ?_ GE336.out) | exact HB.out))) : w.heap.size ≤ gb356))
               have n7_ := mK ((by rw [hg]; exact (bZ (by repeat (first | (with_reducible first | exact HB.out | apply bA | apply bN | apply bD | refine bS ?_ GE312.out | refine bS ?_ GE329.out | refine bS ?_ GE336.out) | exact HB.out))) : w.heap.size ≤ gb356))
               have n8_ := mK ((by rw [hg]; exact Nat.ne_of_lt (blk_lt (g := gb312) (o := o5 a0_0 a0_1 a0_2 a0_3 a0_4 23) (by (with_reducible repeat (first | refine kN ?_ _ | refine kD ?_ | refine kA ?_ _)); exact BK312.out)) : gb312 ≠ gb356))
               have n9_ := mK ((by rw [hg]; exact Nat.ne_of_gt (blk_lt (g := gb312) (o := o5 a0_0 a0_1 a0_2 a0_3 a0_4 23) (by (with_reducible repeat (first | refine kN ?_ _ | refine kD ?_ | refine kA ?_ _)); exact BK312.out)) : gb356 ≠ gb312))
               have n10_ := mK ((by rw [hg]; exact Nat.ne_of_lt (blk_lt (g := gb329) (o := o5 t323 t324 t325 t326 t327 23) (by (with_reducible repeat (first | refine kN ?_ _ | refine kD ?_ | refine kA ?_ _)); exact BK329.out)) : gb329 ≠ gb356))
               have n11_ := mK ((by rw [hg]; exact Nat.ne_of_gt (blk_lt (g := gb329) (o := o5 t323 t324 t325 t326 t327 23) (by (with_reducible repeat (first | refine kN ?_ _ | refine kD ?_ | refine kA ?_ _)); exact BK329.out)) : gb356 ≠ gb329))
               have n12_ := mK ((by rw [hg]; exact Nat.ne_of_lt (blk_lt (g := gb336) (o := o5 t330 t331 t332 t333 t334 31) (by (with_reducible repeat (first | refine kN ?_ _ | refine kD ?_ | refine kA ?_ _)); exact BK336.out)) : gb336 ≠ gb356))
               have n13_ := mK ((by rw [hg]; exact Nat.ne_of_gt (blk_lt (g := gb336) (o := o5 t330 t331 t332 t333 t334 31) (by (with_reducible repeat (first | refine kN ?_ _ | refine kD ?_ | refine kA ?_ _)); exact BK336.out)) : gb356 ≠ gb336))
               clear HO349
               clear BK312
               clear BK329
               clear BK336
               clear HB
               have HO349 := n0_
               have BK312 := n1_
               have BK329 := n2_
               have BK336 := n3_
               have HB := n4_
               have BK356 := n5_
               have GW356 := n6_
               have GE356 := n7_
               have NB312_356 := n8_
               have NB356_312 := n9_
               have NB329_356 := n10_
               have NB356_329 := n11_
               have NB336_356 := n12_
               have NB356_336 := n13_
               clear n0_ n1_ n2_ n3_ n4_ n5_ n6_ n7_ n8_ n9_ n10_ n11_ n12_ n13_
               clear hb hbox hg
               refine hK.out _ _ ⟨(kC BK312.out 0).trans rfl, (kC BK312.out 1).trans rfl, (kC BK312.out 2).trans rfl, (kC BK312.out 3).trans rfl, (kC BK312.out 4).trans rfl⟩ (fun hHeld => ?_)
               clear hK K
               refine norm_ (a' := ?_) ?_ ?_
               rotate_left
               ·
                show Act.put _ (some 15) _ = _
                simp only [Act.put, List.setIfInBounds_toArray, List.set_cons_zero, List.set_cons_succ, i64_w, i32_w]
                rfl
               exact norm_ (by simp only [putAll, Act.put, List.setIfInBounds_toArray, List.set_cons_zero, List.set_cons_succ]) (hCont (.slice Ao53 t347.length co53, gb356) _ ⟨hHeld, (by (with_reducible repeat (first | apply Kd.R_alloc | apply Kd.R_drewN | apply Kd.R_drew)); exact HO349.out), (by (with_reducible repeat (first | refine kN ?_ _ | refine kD ?_ | refine kA ?_ _)); exact BK312.out), (by (with_reducible repeat (first | refine kN ?_ _ | refine kD ?_ | refine kA ?_ _)); exact BK329.out), (by (with_reducible repeat (first | refine kN ?_ _ | refine kD ?_ | refine kA ?_ _)); exact BK336.out), (by (with_reducible repeat (first | refine kN ?_ _ | refine kD ?_ | refine kA ?_ _)); exact BK356.out), GW356.out, GE356.out, NB312_356.out, NB356_312.out, NB329_356.out, NB356_329.out, NB336_356.out, NB356_336.out, (by repeat (first | (with_reducible first | exact HB.out | apply bA | apply bN | apply bD | refine bS ?_ GE312.out | refine bS ?_ GE329.out | refine bS ?_ GE336.out | refine bS ?_ GE356.out) | exact HB.out))⟩)
              ·
               skip
               refine box_step ?hg (N := 15) ?hd (cs := #[.int .i64 0, .int .i64 0, .int .i64 0, .int .i64 0, .int .i64 0]) (t := 23) ?hr ?_; (case hd => rfl); (case hg => rfl); (case hr => first | (go_simp; done) | (go_simp; rfl))
               intro gb356 hg w53 hbox hb
               have n0_ := mK (Kd.R_below (by (with_reducible repeat (first | apply Kd.R_alloc | apply Kd.R_drewN | apply Kd.R_drew)); exact HO349.out) hb)
               have n1_ := mK (kB (g := gb312) (o := o5 a0_0 a0_1 a0_2 a0_3 a0_4 23) (by (with_reducible repeat (first | refine kN ?_ _ | refine kD ?_ | refine kA ?_ _)); exact BK312.out) hb)
               have n2_ := mK (kB (g := gb329) (o := o5 t323 t324 t325 t326 t327 23) (by (with_reducible repeat (first | refine kN ?_ _ | refine kD ?_ | refine kA ?_ _)); exact BK329.out) hb)
               have n3_ := mK (kB (g := gb336) (o := o5 t330 t331 t332 t333 t334 31) (by (with_reducible repeat (first | refine kN ?_ _ | refine kD ?_ | refine kA ?_ _)); exact BK336.out) hb)
               have n4_ := mK (bP (by repeat (first | (with_reducible first | exact HB.out | apply bA | apply bN | apply bD | refine bS ?_ GE312.out | refine bS ?_ GE329.out | refine bS ?_ GE336.out) | exact HB.out)) hb)
               have n5_ := mK (hbox)
               have n6_ := mK ((by rw [hg]; exact (bZ (by repeat (first | (with_reducible first | exact HB.out | apply bA | apply bN | apply bD | refine bS ?_ GE312.out | refine bS ?_ GE329.out | refine bS ?_ GE336.out) | exact HB.out))) : w.heap.size ≤ gb356))
               have n7_ := mK ((by rw [hg]; exact (bZ (by repeat (first | (with_reducible first | exact HB.out | apply bA | apply bN | apply bD | refine bS ?_ GE312.out | refine bS ?_ GE329.out | refine bS ?_ GE336.out) | exact HB.out))) : w.heap.size ≤ gb356))
               have n8_ := mK ((by rw [hg]; exact Nat.ne_of_lt (blk_lt (g := gb312) (o := o5 a0_0 a0_1 a0_2 a0_3 a0_4 23) (by (with_reducible repeat (first | refine kN ?_ _ | refine kD ?_ | refine kA ?_ _)); exact BK312.out)) : gb312 ≠ gb356))
               have n9_ := mK ((by rw [hg]; exact Nat.ne_of_gt (blk_lt (g := gb312) (o := o5 a0_0 a0_1 a0_2 a0_3 a0_4 23) (by (with_reducible repeat (first | refine kN ?_ _ | refine kD ?_ | refine kA ?_ _)); exact BK312.out)) : gb356 ≠ gb312))
               have n10_ := mK ((by rw [hg]; exact Nat.ne_of_lt (blk_lt (g := gb329) (o := o5 t323 t324 t325 t326 t327 23) (by (with_reducible repeat (first | refine kN ?_ _ | refine kD ?_ | refine kA ?_ _)); exact BK329.out)) : gb329 ≠ gb356))
               have n11_ := mK ((by rw [hg]; exact Nat.ne_of_gt (blk_lt (g := gb329) (o := o5 t323 t324 t325 t326 t327 23) (by (with_reducible repeat (first | refine kN ?_ _ | refine kD ?_ | refine kA ?_ _)); exact BK329.out)) : gb356 ≠ gb329))
               have n12_ := mK ((by rw [hg]; exact Nat.ne_of_lt (blk_lt (g := gb336) (o := o5 t330 t331 t332 t333 t334 31) (by (with_reducible repeat (first | refine kN ?_ _ | refine kD ?_ | refine kA ?_ _)); exact BK336.out)) : gb336 ≠ gb356))
               have n13_ := mK ((by rw [hg]; exact Nat.ne_of_gt (blk_lt (g := gb336) (o := o5 t330 t331 t332 t333 t334 31) (by (with_reducible repeat (first | refine kN ?_ _ | refine kD ?_ | refine kA ?_ _)); exact BK336.out)) : gb356 ≠ gb336))
               clear HO349
               clear BK312
               clear BK329
               clear BK336
               clear HB
               have HO349 := n0_
               have BK312 := n1_
               have BK329 := n2_
               have BK336 := n3_
               have HB := n4_
               have BK356 := n5_
               have GW356 := n6_
               have GE356 := n7_
               have NB312_356 := n8_
               have NB356_312 := n9_
               have NB329_356 := n10_
               have NB356_329 := n11_
               have NB336_356 := n12_
               have NB356_336 := n13_
               clear n0_ n1_ n2_ n3_ n4_ n5_ n6_ n7_ n8_ n9_ n10_ n11_ n12_ n13_
               clear hb hbox hg
               obtain ⟨Ao54, co54, eo54⟩ := Kd.R_slice HO349.out
               (first | subst eo54 | (injection eo54 with f1_ f2_ f3_; have f4_ := f1_.symm; have f5_ := f3_.symm; clear f1_ f2_ f3_; subst f4_; subst f5_))
               refine hK.out _ _ ⟨(kC BK312.out 0).trans rfl, (kC BK312.out 1).trans rfl, (kC BK312.out 2).trans rfl, (kC BK312.out 3).trans rfl, (kC BK312.out 4).trans rfl⟩ (fun hHeld => ?_)
               clear hK K
               refine norm_ (a' := ?_) ?_ ?_
               rotate_left
               ·
                show Act.put _ (some 15) _ = _
                simp only [Act.put, List.setIfInBounds_toArray, List.set_cons_zero, List.set_cons_succ, i64_w, i32_w]
                rfl
               refine one_ (i := 5) (N := some 73) #[true, true, true, true, true, true, false, false, false, true, false, false] rfl rfl (one_of HT_.out (by kernel_rfl)) (by decide) (fun K hK => ?_)
               refine goes_ Try.func22 (by kernel_rfl) rfl #[.int .i64 a0_0, .slice Ao54 t347.length co54] (by rfl) rfl rfl (by (try simp only [List.map_toArray, List.map_cons, List.map_nil]); first | done | rfl) ?_
               with_reducible refine (instr_Fill.calls kj23 a0_0 _ _ t347 t350 t351 t352 t353 t354 true _ ?side1 ?side2 A48.out).mono ?_
               (case side1 => repeat (first | exact (Kd.R_reads' HO349.out).2.2 | (with_reducible refine Kd.C_alloc ?_ _) | (with_reducible refine Kd.C_drewN ?_ _) | (with_reducible refine Kd.C_drew ?_)))
               (case side2 => exact (Kd.R_reads' HO349.out).2.1)
               rintro e w55 ⟨rfl, hb⟩
               refine ⟨_, rfl, ?_⟩
               have n0_ := mK (Kd.R_below (by (with_reducible repeat (first | apply Kd.R_alloc | apply Kd.R_drewN | apply Kd.R_drew)); exact HO349.out) hb)
               have n1_ := mK (kB (g := gb312) (o := o5 a0_0 a0_1 a0_2 a0_3 a0_4 23) (by (with_reducible repeat (first | refine kN ?_ _ | refine kD ?_ | refine kA ?_ _)); exact BK312.out) hb)
               have n2_ := mK (kB (g := gb329) (o := o5 t323 t324 t325 t326 t327 23) (by (with_reducible repeat (first | refine kN ?_ _ | refine kD ?_ | refine kA ?_ _)); exact BK329.out) hb)
               have n3_ := mK (kB (g := gb336) (o := o5 t330 t331 t332 t333 t334 31) (by (with_reducible repeat (first | refine kN ?_ _ | refine kD ?_ | refine kA ?_ _)); exact BK336.out) hb)
               have n4_ := mK (kB (g := gb356) (o := o5 0 0 0 0 0 23) (by (with_reducible repeat (first | refine kN ?_ _ | refine kD ?_ | refine kA ?_ _)); exact BK356.out) hb)
               have n5_ := mK (bP (by repeat (first | (with_reducible first | exact HB.out | apply bA | apply bN | apply bD | refine bS ?_ GE312.out | refine bS ?_ GE329.out | refine bS ?_ GE336.out | refine bS ?_ GE356.out) | exact HB.out)) hb)
               clear HO349
               clear BK312
               clear BK329
               clear BK336
               clear BK356
               clear HB
               have HO349 := n0_
               have BK312 := n1_
               have BK329 := n2_
               have BK336 := n3_
               have BK356 := n4_
               have HB := n5_
               clear n0_ n1_ n2_ n3_ n4_ n5_
               (try clear hb)
               refine hK.out _ _ ⟨(kC BK312.out 0).trans rfl, (kC BK312.out 1).trans rfl, (kC BK312.out 2).trans rfl, (kC BK312.out 3).trans rfl, (kC BK312.out 4).trans rfl⟩ (fun hHeld => ?_)
               clear hK K
               refine norm_ (a' := ?_) ?_ ?_
               rotate_left
               ·
                show Act.put _ (some 73) _ = _
                simp only [Act.put, List.setIfInBounds_toArray, List.set_cons_zero, List.set_cons_succ, i64_w, i32_w]
                rfl
               refine pure_ (i := 6) (N := some 67) (v := ?_) (a' := ?_) #[true, true, true, true, true, true, true, false, false, true, false, false] rfl rfl (any_of HT_.out (by kernel_rfl)) (fun _ _ _ h => h) (Or.inl ⟨by rfl, ?_⟩) ?_ ?_
               rotate_left
               ·
                intro w'
                go_simp
                with_reducible rfl
               rotate_left
               ·
                simp only [Act.put, List.setIfInBounds_toArray, List.set_cons_zero, List.set_cons_succ, i64_w, i32_w]
                rfl
               refine pure_ (i := 7) (N := some 74) (v := ?_) (a' := ?_) #[true, true, true, true, true, true, true, true, false, true, false, false] rfl rfl (any_of HT_.out (by kernel_rfl)) (fun _ _ _ h => h) (Or.inl ⟨by rfl, ?_⟩) ?_ ?_
               rotate_left
               ·
                intro w'
                go_simp
                with_reducible rfl
               rotate_left
               ·
                simp only [Act.put, List.setIfInBounds_toArray, List.set_cons_zero, List.set_cons_succ, i64_w, i32_w]
                rfl
               refine pure_ (i := 8) (N := some 75) (v := ?_) (a' := ?_) #[true, true, true, true, true, true, true, true, true, true, false, false] rfl rfl (any_of HT_.out (by kernel_rfl)) (fun _ _ _ h => h) (Or.inl ⟨by rfl, ?_⟩) ?_ ?_
               rotate_left
               ·
                intro w'
                go_simp
                with_reducible rfl
               rotate_left
               ·
                simp only [Act.put, List.setIfInBounds_toArray, List.set_cons_zero, List.set_cons_succ, i64_w, i32_w]
                rfl
               exact norm_ (by simp only [putAll, Act.put, List.setIfInBounds_toArray, List.set_cons_zero, List.set_cons_succ]) (hCont (.slice Ao54 t347.length co54, gb356) _ ⟨hHeld, (by (with_reducible repeat (first | apply Kd.R_alloc | apply Kd.R_drewN | apply Kd.R_drew)); exact HO349.out), (by (with_reducible repeat (first | refine kN ?_ _ | refine kD ?_ | refine kA ?_ _)); exact BK312.out), (by (with_reducible repeat (first | refine kN ?_ _ | refine kD ?_ | refine kA ?_ _)); exact BK329.out), (by (with_reducible repeat (first | refine kN ?_ _ | refine kD ?_ | refine kA ?_ _)); exact BK336.out), (by (with_reducible repeat (first | refine kN ?_ _ | refine kD ?_ | refine kA ?_ _)); exact BK356.out), GW356.out, GE356.out, NB312_356.out, NB356_312.out, NB329_356.out, NB356_329.out, NB336_356.out, NB356_336.out, (by repeat (first | (with_reducible first | exact HB.out | apply bA | apply bN | apply bD | refine bS ?_ GE312.out | refine bS ?_ GE329.out | refine bS ?_ GE336.out | refine bS ?_ GE356.out) | exact HB.out))⟩)
             ·
              skip
              refine box_step ?hg (N := 15) ?hd (cs := #[.int .i64 0, .int .i64 0, .int .i64 0, .int .i64 0, .int .i64 0]) (t := 23) ?hr ?_; (case hd => rfl); (case hg => rfl); (case hr => first | (go_simp; done) | (go_simp; rfl))
              intro gb356 hg w52 hbox hb
              have n0_ := mK (kB (g := gb312) (o := o5 a0_0 a0_1 a0_2 a0_3 a0_4 23) (by (with_reducible repeat (first | refine kN ?_ _ | refine kD ?_ | refine kA ?_ _)); exact BK312.out) hb)
              have n1_ := mK (kB (g := gb329) (o := o5 t323 t324 t325 t326 t327 23) (by (with_reducible repeat (first | refine kN ?_ _ | refine kD ?_ | refine kA ?_ _)); exact BK329.out) hb)
              have n2_ := mK (kB (g := gb336) (o := o5 t330 t331 t332 t333 t334 31) (by (with_reducible repeat (first | refine kN ?_ _ | refine kD ?_ | refine kA ?_ _)); exact BK336.out) hb)
              have n3_ := mK (bP (by repeat (first | (with_reducible first | exact HB.out | apply bA | apply bN | apply bD | refine bS ?_ GE312.out | refine bS ?_ GE329.out | refine bS ?_ GE336.out) | exact HB.out)) hb)
              have n4_ := mK (hbox)
              have n5_ := mK ((by rw [hg]; exact (bZ (by repeat (first | (with_reducible first | exact HB.out | apply bA | apply bN | apply bD | refine bS ?_ GE312.out | refine bS ?_ GE329.out | refine bS ?_ GE336.out) | exact HB.out))) : w.heap.size ≤ gb356))
              have n6_ := mK ((by rw [hg]; exact (bZ (by repeat (first | (with_reducible first | exact HB.out | apply bA | apply bN | apply bD | refine bS ?_ GE312.out | refine bS ?_ GE329.out | refine bS ?_ GE336.out) | exact HB.out))) : w.heap.size ≤ gb356))
              have n7_ := mK ((by rw [hg]; exact Nat.ne_of_lt (blk_lt (g := gb312) (o := o5 a0_0 a0_1 a0_2 a0_3 a0_4 23) (by (with_reducible repeat (first | refine kN ?_ _ | refine kD ?_ | refine kA ?_ _)); exact BK312.out)) : gb312 ≠ gb356))
              have n8_ := mK ((by rw [hg]; exact Nat.ne_of_gt (blk_lt (g := gb312) (o := o5 a0_0 a0_1 a0_2 a0_3 a0_4 23) (by (with_reducible repeat (first | refine kN ?_ _ | refine kD ?_ | refine kA ?_ _)); exact BK312.out)) : gb356 ≠ gb312))
              have n9_ := mK ((by rw [hg]; exact Nat.ne_of_lt (blk_lt (g := gb329) (o := o5 t323 t324 t325 t326 t327 23) (by (with_reducible repeat (first | refine kN ?_ _ | refine kD ?_ | refine kA ?_ _)); exact BK329.out)) : gb329 ≠ gb356))
              have n10_ := mK ((by rw [hg]; exact Nat.ne_of_gt (blk_lt (g := gb329) (o := o5 t323 t324 t325 t326 t327 23) (by (with_reducible repeat (first | refine kN ?_ _ | refine kD ?_ | refine kA ?_ _)); exact BK329.out)) : gb356 ≠ gb329))
              have n11_ := mK ((by rw [hg]; exact Nat.ne_of_lt (blk_lt (g := gb336) (o := o5 t330 t331 t332 t333 t334 31) (by (with_reducible repeat (first | refine kN ?_ _ | refine kD ?_ | refine kA ?_ _)); exact BK336.out)) : gb336 ≠ gb356))
              have n12_ := mK ((by rw [hg]; exact Nat.ne_of_gt (blk_lt (g := gb336) (o := o5 t330 t331 t332 t333 t334 31) (by (with_reducible repeat (first | refine kN ?_ _ | refine kD ?_ | refine kA ?_ _)); exact BK336.out)) : gb356 ≠ gb336))
              clear BK312
              clear BK329
              clear BK336
              clear HB
              have BK312 := n0_
              have BK329 := n1_
              have BK336 := n2_
              have HB := n3_
              have BK356 := n4_
              have GW356 := n5_
              have GE356 := n6_
              have NB312_356 := n7_
              have NB356_312 := n8_
              have NB329_356 := n9_
              have NB356_329 := n10_
              have NB336_356 := n11_
              have NB356_336 := n12_
              clear n0_ n1_ n2_ n3_ n4_ n5_ n6_ n7_ n8_ n9_ n10_ n11_ n12_
              clear hb hbox hg
              refine hK.out _ _ ⟨(kC BK312.out 0).trans rfl, (kC BK312.out 1).trans rfl, (kC BK312.out 2).trans rfl, (kC BK312.out 3).trans rfl, (kC BK312.out 4).trans rfl⟩ (fun hHeld => ?_)
              clear hK K
              refine norm_ (a' := ?_) ?_ ?_
              rotate_left
              ·
               show Act.put _ (some 15) _ = _
               simp only [Act.put, List.setIfInBounds_toArray, List.set_cons_zero, List.set_cons_succ, i64_w, i32_w]
               rfl
              refine one_ (i := 4) (N := some 72) #[true, true, true, true, true, false, false, false, false, true, false, false] rfl rfl (one_of HT_.out (by kernel_rfl)) (by decide) (fun K hK => ?_)
              refine goes_ Try.func24 (by kernel_rfl) rfl #[.agg #[.int .i64 t342, .int .i64 t343, .int .i64 t344, .int .i64 t345, .int .i64 t346]] (by rfl) rfl rfl (by (try simp only [List.map_toArray, List.map_cons, List.map_nil]); first | done | rfl) ?_
              with_reducible refine (pascalineref02_Fields.calls kj23 t342 t343 t344 t345 t346 t347 _ A47.out).mono ?_
              rintro e w53 ⟨v348, rfl, ho0, hb⟩
              refine ⟨_, rfl, ?_⟩
              have n0_ := mK (Kd.R_lower ho0 (bZ (by repeat (first | (with_reducible first | exact HB.out | apply bA | apply bN | apply bD | refine bS ?_ GE312.out | refine bS ?_ GE329.out | refine bS ?_ GE336.out | refine bS ?_ GE356.out) | exact HB.out))))
              have n1_ := mK (kB (g := gb312) (o := o5 a0_0 a0_1 a0_2 a0_3 a0_4 23) (by (with_reducible repeat (first | refine kN ?_ _ | refine kD ?_ | refine kA ?_ _)); exact BK312.out) hb)
              have n2_ := mK (kB (g := gb329) (o := o5 t323 t324 t325 t326 t327 23) (by (with_reducible repeat (first | refine kN ?_ _ | refine kD ?_ | refine kA ?_ _)); exact BK329.out) hb)
              have n3_ := mK (kB (g := gb336) (o := o5 t330 t331 t332 t333 t334 31) (by (with_reducible repeat (first | refine kN ?_ _ | refine kD ?_ | refine kA ?_ _)); exact BK336.out) hb)
              have n4_ := mK (kB (g := gb356) (o := o5 0 0 0 0 0 23) (by (with_reducible repeat (first | refine kN ?_ _ | refine kD ?_ | refine kA ?_ _)); exact BK356.out) hb)
              have n5_ := mK (bP (by repeat (first | (with_reducible first | exact HB.out | apply bA | apply bN | apply bD | refine bS ?_ GE312.out | refine bS ?_ GE329.out | refine bS ?_ GE336.out | refine bS ?_ GE356.out) | exact HB.out)) hb)
              clear BK312
              clear BK329
              clear BK336
              clear BK356
              clear HB
              have HO349 := n0_
              have BK312 := n1_
              have BK329 := n2_
              have BK336 := n3_
              have BK356 := n4_
              have HB := n5_
              clear n0_ n1_ n2_ n3_ n4_ n5_
              (try clear hb)
              (try clear ho0)
              obtain ⟨Ao54, co54, eo54⟩ := Kd.R_slice HO349.out
              (first | subst eo54 | (injection eo54 with f1_ f2_ f3_; have f4_ := f1_.symm; have f5_ := f3_.symm; clear f1_ f2_ f3_; subst f4_; subst f5_))
              refine hK.out _ _ ⟨(kC BK312.out 0).trans rfl, (kC BK312.out 1).trans rfl, (kC BK312.out 2).trans rfl, (kC BK312.out 3).trans rfl, (kC BK312.out 4).trans rfl⟩ (fun hHeld => ?_)
              clear hK K
              refine norm_ (a' := ?_) ?_ ?_
              rotate_left
              ·
               show Act.put _ (some 72) _ = _
               simp only [Act.put, List.setIfInBounds_toArray, List.set_cons_zero, List.set_cons_succ, i64_w, i32_w]
               rfl
              refine one_ (i := 5) (N := some 73) #[true, true, true, true, true, true, false, false, false, true, false, false] rfl rfl (one_of HT_.out (by kernel_rfl)) (by decide) (fun K hK => ?_)
              refine goes_ Try.func22 (by kernel_rfl) rfl #[.int .i64 a0_0, .slice Ao54 t347.length co54] (by rfl) rfl rfl (by (try simp only [List.map_toArray, List.map_cons, List.map_nil]); first | done | rfl) ?_
              with_reducible refine (instr_Fill.calls kj23 a0_0 _ _ t347 t350 t351 t352 t353 t354 true _ ?side1 ?side2 A48.out).mono ?_
              (case side1 => repeat (first | exact (Kd.R_reads' HO349.out).2.2 | (with_reducible refine Kd.C_alloc ?_ _) | (with_reducible refine Kd.C_drewN ?_ _) | (with_reducible refine Kd.C_drew ?_)))
              (case side2 => exact (Kd.R_reads' HO349.out).2.1)
              rintro e w55 ⟨rfl, hb⟩
              refine ⟨_, rfl, ?_⟩
              have n0_ := mK (Kd.R_below (by (with_reducible repeat (first | apply Kd.R_alloc | apply Kd.R_drewN | apply Kd.R_drew)); exact HO349.out) hb)
              have n1_ := mK (kB (g := gb312) (o := o5 a0_0 a0_1 a0_2 a0_3 a0_4 23) (by (with_reducible repeat (first | refine kN ?_ _ | refine kD ?_ | refine kA ?_ _)); exact BK312.out) hb)
              have n2_ := mK (kB (g := gb329) (o := o5 t323 t324 t325 t326 t327 23) (by (with_reducible repeat (first | refine kN ?_ _ | refine kD ?_ | refine kA ?_ _)); exact BK329.out) hb)
              have n3_ := mK (kB (g := gb336) (o := o5 t330 t331 t332 t333 t334 31) (by (with_reducible repeat (first | refine kN ?_ _ | refine kD ?_ | refine kA ?_ _)); exact BK336.out) hb)
              have n4_ := mK (kB (g := gb356) (o := o5 0 0 0 0 0 23) (by (with_reducible repeat (first | refine kN ?_ _ | refine kD ?_ | refine kA ?_ _)); exact BK356.out) hb)
              have n5_ := mK (bP (by repeat (first | (with_reducible first | exact HB.out | apply bA | apply bN | apply bD | refine bS ?_ GE312.out | refine bS ?_ GE329.out | refine bS ?_ GE336.out | refine bS ?_ GE356.out) | exact HB.out)) hb)
              clear HO349
              clear BK312
              clear BK329
              clear BK336
              clear BK356
              clear HB
              have HO349 := n0_
              have BK312 := n1_
              have BK329 := n2_
              have BK336 := n3_
              have BK356 := n4_
              have HB := n5_
              clear n0_ n1_ n2_ n3_ n4_ n5_
              (try clear hb)
              refine hK.out _ _ ⟨(kC BK312.out 0).trans rfl, (kC BK312.out 1).trans rfl, (kC BK312.out 2).trans rfl, (kC BK312.out 3).trans rfl, (kC BK312.out 4).trans rfl⟩ (fun hHeld => ?_)
              clear hK K
              refine norm_ (a' := ?_) ?_ ?_
              rotate_left
              ·
               show Act.put _ (some 73) _ = _
               simp only [Act.put, List.setIfInBounds_toArray, List.set_cons_zero, List.set_cons_succ, i64_w, i32_w]
               rfl
              refine pure_ (i := 6) (N := some 67) (v := ?_) (a' := ?_) #[true, true, true, true, true, true, true, false, false, true, false, false] rfl rfl (any_of HT_.out (by kernel_rfl)) (fun _ _ _ h => h) (Or.inl ⟨by rfl, ?_⟩) ?_ ?_
              rotate_left
              ·
               intro w'
               go_simp
               with_reducible rfl
              rotate_left
              ·
               simp only [Act.put, List.setIfInBounds_toArray, List.set_cons_zero, List.set_cons_succ, i64_w, i32_w]
               rfl
              refine pure_ (i := 7) (N := some 74) (v := ?_) (a' := ?_) #[true, true, true, true, true, true, true, true, false, true, false, false] rfl rfl (any_of HT_.out (by kernel_rfl)) (fun _ _ _ h => h) (Or.inl ⟨by rfl, ?_⟩) ?_ ?_
              rotate_left
              ·
               intro w'
               go_simp
               with_reducible rfl
              rotate_left
              ·
               simp only [Act.put, List.setIfInBounds_toArray, List.set_cons_zero, List.set_cons_succ, i64_w, i32_w]
               rfl
              refine pure_ (i := 8) (N := some 75) (v := ?_) (a' := ?_) #[true, true, true, true, true, true, true, true, true, true, false, false] rfl rfl (any_of HT_.out (by kernel_rfl)) (fun _ _ _ h => h) (Or.inl ⟨by rfl, ?_⟩) ?_ ?_
              rotate_left
              ·
               intro w'
               go_simp
               with_reducible rfl
              rotate_left
              ·
               simp only [Act.put, List.setIfInBounds_toArray, List.set_cons_zero, List.set_cons_succ, i64_w, i32_w]
               rfl
              exact norm_ (by simp only [putAll, Act.put, List.setIfInBounds_toArray, List.set_cons_zero, List.set_cons_succ]) (hCont (.slice Ao54 t347.length co54, gb356) _ ⟨hHeld, (by (with_reducible repeat (first | apply Kd.R_alloc | apply Kd.R_drewN | apply Kd.R_drew)); exact HO349.out), (by (with_reducible repeat (first | refine kN ?_ _ | refine kD ?_ | refine kA ?_ _)); exact BK312.out), (by (with_reducible repeat (first | refine kN ?_ _ | refine kD ?_ | refine kA ?_ _)); exact BK329.out), (by (with_reducible repeat (first | refine kN ?_ _ | refine kD ?_ | refine kA ?_ _)); exact BK336.out), (by (with_reducible repeat (first | refine kN ?_ _ | refine kD ?_ | refine kA ?_ _)); exact BK356.out), GW356.out, GE356.out, NB312_356.out, NB356_312.out, NB329_356.out, NB356_329.out, NB336_356.out, NB356_336.out, (by repeat (first | (with_reducible first | exact HB.out | apply bA | apply bN | apply bD | refine bS ?_ GE312.out | refine bS ?_ GE329.out | refine bS ?_ GE336.out | refine bS ?_ GE356.out) | exact HB.out))⟩)
            ·
             skip
             refine box_step ?hg (N := 15) ?hd (cs := #[.int .i64 0, .int .i64 0, .int .i64 0, .int .i64 0, .int .i64 0]) (t := 23) ?hr ?_; (case hd => rfl); (case hg => rfl); (case hr => first | (go_simp; done) | (go_simp; rfl))
             intro gb356 hg w51 hbox hb
             have n0_ := mK (kB (g := gb312) (o := o5 a0_0 a0_1 a0_2 a0_3 a0_4 23) (by (with_reducible repeat (first | refine kN ?_ _ | refine kD ?_ | refine kA ?_ _)); exact BK312.out) hb)
             have n1_ := mK (kB (g := gb329) (o := o5 t323 t324 t325 t326 t327 23) (by (with_reducible repeat (first | refine kN ?_ _ | refine kD ?_ | refine kA ?_ _)); exact BK329.out) hb)
             have n2_ := mK (kB (g := gb336) (o := o5 t330 t331 t332 t333 t334 31) (by (with_reducible repeat (first | refine kN ?_ _ | refine kD ?_ | refine kA ?_ _)); exact BK336.out) hb)
             have n3_ := mK (bP (by repeat (first | (with_reducible first | exact HB.out | apply bA | apply bN | apply bD | refine bS ?_ GE312.out | refine bS ?_ GE329.out | refine bS ?_ GE336.out) | exact HB.out)) hb)
             have n4_ := mK (hbox)
             have n5_ := mK ((by rw [hg]; exact (bZ (by repeat (first | (with_reducible first | exact HB.out | apply bA | apply bN | apply bD | refine bS ?_ GE312.out | refine bS ?_ GE329.out | refine bS ?_ GE336.out) | exact HB.out))) : w.heap.size ≤ gb356))
             have n6_ := mK ((by rw [hg]; exact (bZ (by repeat (first | (with_reducible first | exact HB.out | apply bA | apply bN | apply bD | refine bS ?_ GE312.out | refine bS ?_ GE329.out | refine bS ?_ GE336.out) | exact HB.out))) : w.heap.size ≤ gb356))
             have n7_ := mK ((by rw [hg]; exact Nat.ne_of_lt (blk_lt (g := gb312) (o := o5 a0_0 a0_1 a0_2 a0_3 a0_4 23) (by (with_reducible repeat (first | refine kN ?_ _ | refine kD ?_ | refine kA ?_ _)); exact BK312.out)) : gb312 ≠ gb356))
             have n8_ := mK ((by rw [hg]; exact Nat.ne_of_gt (blk_lt (g := gb312) (o := o5 a0_0 a0_1 a0_2 a0_3 a0_4 23) (by (with_reducible repeat (first | refine kN ?_ _ | refine kD ?_ | refine kA ?_ _)); exact BK312.out)) : gb356 ≠ gb312))
             have n9_ := mK ((by rw [hg]; exact Nat.ne_of_lt (blk_lt (g := gb329) (o := o5 t323 t324 t325 t326 t327 23) (by (with_reducible repeat (first | refine kN ?_ _ | refine kD ?_ | refine kA ?_ _)); exact BK329.out)) : gb329 ≠ gb356))
             have n10_ := mK ((by rw [hg]; exact Nat.ne_of_gt (blk_lt (g := gb329) (o := o5 t323 t324 t325 t326 t327 23) (by (with_reducible repeat (first | refine kN ?_ _ | refine kD ?_ | refine kA ?_ _)); exact BK329.out)) : gb356 ≠ gb329))
             have n11_ := mK ((by rw [hg]; exact Nat.ne_of_lt (blk_lt (g := gb336) (o := o5 t330 t331 t332 t333 t334 31) (by (with_reducible repeat (first | refine kN ?_ _ | refine kD ?_ | refine kA ?_ _)); exact BK336.out)) : gb336 ≠ gb356))
             have n12_ := mK ((by rw [hg]; exact Nat.ne_of_gt (blk_lt (g := gb336) (o := o5 t330 t331 t332 t333 t334 31) (by (with_reducible repeat (first | refine kN ?_ _ | refine kD ?_ | refine kA ?_ _)); exact BK336.out)) : gb356 ≠ gb336))
             clear BK312
             clear BK329
             clear BK336
             clear HB
             have BK312 := n0_
             have BK329 := n1_
             have BK336 := n2_
             have HB := n3_
             have BK356 := n4_
             have GW356 := n5_
             have GE356 := n6_
             have NB312_356 := n7_
             have NB356_312 := n8_
             have NB329_356 := n9_
             have NB356_329 := n10_
             have NB336_356 := n11_
             have NB356_336 := n12_
             clear n0_ n1_ n2_ n3_ n4_ n5_ n6_ n7_ n8_ n9_ n10_ n11_ n12_
             clear hb hbox hg
             refine hK.out _ _ ⟨(kC BK312.out 0).trans rfl, (kC BK312.out 1).trans rfl, (kC BK312.out 2).trans rfl, (kC BK312.out 3).trans rfl, (kC BK312.out 4).trans rfl⟩ (fun hHeld => ?_)
             clear hK K
             refine norm_ (a' := ?_) ?_ ?_
             rotate_left
             ·
              show Act.put _ (some 15) _ = _
              simp only [Act.put, List.setIfInBounds_toArray, List.set_cons_zero, List.set_cons_succ, i64_w, i32_w]
              rfl
             refine one_ (i := 3) (N := some 71) #[true, true, true, true, false, false, false, false, false, true, false, false] rfl rfl (one_of HT_.out (by kernel_rfl)) (by decide) (fun K hK => ?_)
             refine goes_ Try.func11 (by kernel_rfl) rfl #[.agg #[.int .i64 a0_0, .int .i64 a0_1, .int .i64 a0_2, .int .i64 a0_3, .int .i64 a0_4]] (by rfl) rfl rfl (by (try simp only [List.map_toArray, List.map_cons, List.map_nil]); first | done | rfl) ?_
             with_reducible refine (pascalinelaw02_Ref.calls a0_0 a0_1 a0_2 a0_3 a0_4 t342 t343 t344 t345 t346 _ A46.out).mono ?_
             rintro e w52 ⟨rfl, hb⟩
             refine ⟨_, rfl, ?_⟩
             have n0_ := mK (kB (g := gb312) (o := o5 a0_0 a0_1 a0_2 a0_3 a0_4 23) (by (with_reducible repeat (first | refine kN ?_ _ | refine kD ?_ | refine kA ?_ _)); exact BK312.out) hb)
             have n1_ := mK (kB (g := gb329) (o := o5 t323 t324 t325 t326 t327 23) (by (with_reducible repeat (first | refine kN ?_ _ | refine kD ?_ | refine kA ?_ _)); exact BK329.out) hb)
             have n2_ := mK (kB (g := gb336) (o := o5 t330 t331 t332 t333 t334 31) (by (with_reducible repeat (first | refine kN ?_ _ | refine kD ?_ | refine kA ?_ _)); exact BK336.out) hb)
             have n3_ := mK (kB (g := gb356) (o := o5 0 0 0 0 0 23) (by (with_reducible repeat (first | refine kN ?_ _ | refine kD ?_ | refine kA ?_ _)); exact BK356.out) hb)
             have n4_ := mK (bP (by repeat (first | (with_reducible first | exact HB.out | apply bA | apply bN | apply bD | refine bS ?_ GE312.out | refine bS ?_ GE329.out | refine bS ?_ GE336.out | refine bS ?_ GE356.out) | exact HB.out)) hb)
             clear BK312
             clear BK329
             clear BK336
             clear BK356
             clear HB
             have BK312 := n0_
             have BK329 := n1_
             have BK336 := n2_
             have BK356 := n3_
             have HB := n4_
             clear n0_ n1_ n2_ n3_ n4_
             (try clear hb)
             refine hK.out _ _ ⟨(kC BK312.out 0).trans rfl, (kC BK312.out 1).trans rfl, (kC BK312.out 2).trans rfl, (kC BK312.out 3).trans rfl, (kC BK312.out 4).trans rfl⟩ (fun hHeld => ?_)
             clear hK K
             refine norm_ (a' := ?_) ?_ ?_
             rotate_left
             ·
              show Act.put _ (some 71) _ = _
              simp only [Act.put, List.setIfInBounds_toArray, List.set_cons_zero, List.set_cons_succ, i64_w, i32_w]
              rfl
             refine one_ (i := 4) (N := some 72) #[true, true, true, true, true, false, false, false, false, true, false, false] rfl rfl (one_of HT_.out (by kernel_rfl)) (by decide) (fun K hK => ?_)
             refine goes_ Try.func24 (by kernel_rfl) rfl #[.agg #[.int .i64 t342, .int .i64 t343, .int .i64 t344, .int .i64 t345, .int .i64 t346]] (by rfl) rfl rfl (by (try simp only [List.map_toArray, List.map_cons, List.map_nil]); first | done | rfl) ?_
             with_reducible refine (pascalineref02_Fields.calls kj23 t342 t343 t344 t345 t346 t347 _ A47.out).mono ?_
             rintro e w53 ⟨v348, rfl, ho0, hb⟩
             refine ⟨_, rfl, ?_⟩
             have n0_ := mK (Kd.R_lower ho0 (bZ (by repeat (first | (with_reducible first | exact HB.out | apply bA | apply bN | apply bD | refine bS ?_ GE312.out | refine bS ?_ GE329.out | refine bS ?_ GE336.out | refine bS ?_ GE356.out) | exact HB.out))))
             have n1_ := mK (kB (g := gb312) (o := o5 a0_0 a0_1 a0_2 a0_3 a0_4 23) (by (with_reducible repeat (first | refine kN ?_ _ | refine kD ?_ | refine kA ?_ _)); exact BK312.out) hb)
             have n2_ := mK (kB (g := gb329) (o := o5 t323 t324 t325 t326 t327 23) (by (with_reducible repeat (first | refine kN ?_ _ | refine kD ?_ | refine kA ?_ _)); exact BK329.out) hb)
             have n3_ := mK (kB (g := gb336) (o := o5 t330 t331 t332 t333 t334 31) (by (with_reducible repeat (first | refine kN ?_ _ | refine kD ?_ | refine kA ?_ _)); exact BK336.out) hb)
             have n4_ := mK (kB (g := gb356) (o := o5 0 0 0 0 0 23) (by (with_reducible repeat (first | refine kN ?_ _ | refine kD ?_ | refine kA ?_ _)); exact BK356.out) hb)
             have n5_ := mK (bP (by repeat (first | (with_reducible first | exact HB.out | apply bA | apply bN | apply bD | refine bS ?_ GE312.out | refine bS ?_ GE329.out | refine bS ?_ GE336.out | refine bS ?_ GE356.out) | exact HB.out)) hb)
             clear BK312
             clear BK329
             clear BK336
             clear BK356
             clear HB
             have HO349 := n0_
             have BK312 := n1_
             have BK329 := n2_
             have BK336 := n3_
             have BK356 := n4_
             have HB := n5_
             clear n0_ n1_ n2_ n3_ n4_ n5_
             (try clear hb)
             (try clear ho0)
             obtain ⟨Ao54, co54, eo54⟩ := Kd.R_slice HO349.out
             (first | subst eo54 | (injection eo54 with f1_ f2_ f3_; have f4_ := f1_.symm; have f5_ := f3_.symm; clear f1_ f2_ f3_; subst f4_; subst f5_))
             refine hK.out _ _ ⟨(kC BK312.out 0).trans rfl, (kC BK312.out 1).trans rfl, (kC BK312.out 2).trans rfl, (kC BK312.out 3).trans rfl, (kC BK312.out 4).trans rfl⟩ (fun hHeld => ?_)
             clear hK K
             refine norm_ (a' := ?_) ?_ ?_
             rotate_left
             ·
              show Act.put _ (some 72) _ = _
              simp only [Act.put, List.setIfInBounds_toArray, List.set_cons_zero, List.set_cons_succ, i64_w, i32_w]
              rfl
             refine one_ (i := 5) (N := some 73) #[true, true, true, true, true, true, false, false, false, true, false, false] rfl rfl (one_of HT_.out (by kernel_rfl)) (by decide) (fun K hK => ?_)
             refine goes_ Try.func22 (by kernel_rfl) rfl #[.int .i64 a0_0, .slice Ao54 t347.length co54] (by rfl) rfl rfl (by (try simp only [List.map_toArray, List.map_cons, List.map_nil]); first | done | rfl) ?_
             with_reducible refine (instr_Fill.calls kj23 a0_0 _ _ t347 t350 t351 t352 t353 t354 true _ ?side1 ?side2 A48.out).mono ?_
             (case side1 => repeat (first | exact (Kd.R_reads' HO349.out).2.2 | (with_reducible refine Kd.C_alloc ?_ _) | (with_reducible refine Kd.C_drewN ?_ _) | (with_reducible refine Kd.C_drew ?_)))
             (case side2 => exact (Kd.R_reads' HO349.out).2.1)
             rintro e w55 ⟨rfl, hb⟩
             refine ⟨_, rfl, ?_⟩
             have n0_ := mK (Kd.R_below (by (with_reducible repeat (first | apply Kd.R_alloc | apply Kd.R_drewN | apply Kd.R_drew)); exact HO349.out) hb)
             have n1_ := mK (kB (g := gb312) (o := o5 a0_0 a0_1 a0_2 a0_3 a0_4 23) (by (with_reducible repeat (first | refine kN ?_ _ | refine kD ?_ | refine kA ?_ _)); exact BK312.out) hb)
             have n2_ := mK (kB (g := gb329) (o := o5 t323 t324 t325 t326 t327 23) (by (with_reducible repeat (first | refine kN ?_ _ | refine kD ?_ | refine kA ?_ _)); exact BK329.out) hb)
             have n3_ := mK (kB (g := gb336) (o := o5 t330 t331 t332 t333 t334 31) (by (with_reducible repeat (first | refine kN ?_ _ | refine kD ?_ | refine kA ?_ _)); exact BK336.out) hb)
             have n4_ := mK (kB (g := gb356) (o := o5 0 0 0 0 0 23) (by (with_reducible repeat (first | refine kN ?_ _ | refine kD ?_ | refine kA ?_ _)); exact BK356.out) hb)
             have n5_ := mK (bP (by repeat (first | (with_reducible first | exact HB.out | apply bA | apply bN | apply bD | refine bS ?_ GE312.out | refine bS ?_ GE329.out | refine bS ?_ GE336.out | refine bS ?_ GE356.out) | exact HB.out)) hb)
             clear HO349
             clear BK312
             clear BK329
             clear BK336
             clear BK356
             clear HB
             have HO349 := n0_
             have BK312 := n1_
             have BK329 := n2_
             have BK336 := n3_
             have BK356 := n4_
             have HB := n5_
             clear n0_ n1_ n2_ n3_ n4_ n5_
             (try clear hb)
             refine hK.out _ _ ⟨(kC BK312.out 0).trans rfl, (kC BK312.out 1).trans rfl, (kC BK312.out 2).trans rfl, (kC BK312.out 3).trans rfl, (kC BK312.out 4).trans rfl⟩ (fun hHeld => ?_)
             clear hK K
             refine norm_ (a' := ?_) ?_ ?_
             rotate_left
             ·
              show Act.put _ (some 73) _ = _
              simp only [Act.put, List.setIfInBounds_toArray, List.set_cons_zero, List.set_cons_succ, i64_w, i32_w]
              rfl
             refine pure_ (i := 6) (N := some 67) (v := ?_) (a' := ?_) #[true, true, true, true, true, true, true, false, false, true, false, false] rfl rfl (any_of HT_.out (by kernel_rfl)) (fun _ _ _ h => h) (Or.inl ⟨by rfl, ?_⟩) ?_ ?_
             rotate_left
             ·
              intro w'
              go_simp
              with_reducible rfl
             rotate_left
             ·
              simp only [Act.put, List.setIfInBounds_toArray, List.set_cons_zero, List.set_cons_succ, i64_w, i32_w]
              rfl
             refine pure_ (i := 7) (N := some 74) (v := ?_) (a' := ?_) #[true, true, true, true, true, true, true, true, false, true, false, false] rfl rfl (any_of HT_.out (by kernel_rfl)) (fun _ _ _ h => h) (Or.inl ⟨by rfl, ?_⟩) ?_ ?_
             rotate_left
             ·
              intro w'
              go_simp
              with_reducible rfl
             rotate_left
             ·
              simp only [Act.put, List.setIfInBounds_toArray, List.set_cons_zero, List.set_cons_succ, i64_w, i32_w]
              rfl
             refine pure_ (i := 8) (N := some 75) (v := ?_) (a' := ?_) #[true, true, true, true, true, true, true, true, true, true, false, false] rfl rfl (any_of HT_.out (by kernel_rfl)) (fun _ _ _ h => h) (Or.inl ⟨by rfl, ?_⟩) ?_ ?_
             rotate_left
             ·
              intro w'
              go_simp
              with_reducible rfl
             rotate_left
             ·
              simp only [Act.put, List.setIfInBounds_toArray, List.set_cons_zero, List.set_cons_succ, i64_w, i32_w]
              rfl
             exact norm_ (by simp only [putAll, Act.put, List.setIfInBounds_toArray, List.set_cons_zero, List.set_cons_succ]) (hCont (.slice Ao54 t347.length co54, gb356) _ ⟨hHeld, (by (with_reducible repeat (first | apply Kd.R_alloc | apply Kd.R_drewN | apply Kd.R_drew)); exact HO349.out), (by (with_reducible repeat (first | refine kN ?_ _ | refine kD ?_ | refine kA ?_ _)); exact BK312.out), (by (with_reducible repeat (first | refine kN ?_ _ | refine kD ?_ | refine kA ?_ _)); exact BK329.out), (by (with_reducible repeat (first | refine kN ?_ _ | refine kD ?_ | refine kA ?_ _)); exact BK336.out), (by (with_reducible repeat (first | refine kN ?_ _ | refine kD ?_ | refine kA ?_ _)); exact BK356.out), GW356.out, GE356.out, NB312_356.out, NB356_312.out, NB329_356.out, NB356_329.out, NB336_356.out, NB356_336.out, (by repeat (first | (with_reducible first | exact HB.out | apply bA | apply bN | apply bD | refine bS ?_ GE312.out | refine bS ?_ GE329.out | refine bS ?_ GE336.out | refine bS ?_ GE356.out) | exact HB.out))⟩)
           rintro ⟨v348, gb356⟩ w56 ⟨hS_, h0_, h1_, h2_, h3_, h4_, h5_, h6_, h7_, h8_, h9_, h10_, h11_, h12_, h13_⟩
           have n0_ : Aside0 (Kd.R Kd.string 9 w56 w.heap.size (fun _ => True) v348 t347) := ⟨h0_⟩
           have n1_ : Aside0 (w56.heap[gb312]? = some (o5 a0_0 a0_1 a0_2 a0_3 a0_4 23)) := ⟨h1_⟩
           have n2_ : Aside0 (w56.heap[gb329]? = some (o5 t323 t324 t325 t326 t327 23)) := ⟨h2_⟩
           have n3_ : Aside0 (w56.heap[gb336]? = some (o5 t330 t331 t332 t333 t334 31)) := ⟨h3_⟩
           have n4_ : Aside0 (w56.heap[gb356]? = some (o5 0 0 0 0 0 23)) := ⟨h4_⟩
           have n5_ : Aside0 (w.heap.size ≤ gb356) := ⟨h5_⟩
           have n6_ : Aside0 (w.heap.size ≤ gb356) := ⟨h6_⟩
           have n7_ : Aside0 (gb312 ≠ gb356) := ⟨h7_⟩
           have n8_ : Aside0 (gb356 ≠ gb312) := ⟨h8_⟩
           have n9_ : Aside0 (gb329 ≠ gb356) := ⟨h9_⟩
           have n10_ : Aside0 (gb356 ≠ gb329) := ⟨h10_⟩
           have n11_ : Aside0 (gb336 ≠ gb356) := ⟨h11_⟩
           have n12_ : Aside0 (gb356 ≠ gb336) := ⟨h12_⟩
           have n13_ : Aside0 (Below w.heap.size w w56) := ⟨h13_⟩
           clear BK312
           clear BK329
           clear BK336
           clear HB
           clear h0_ h1_ h2_ h3_ h4_ h5_ h6_ h7_ h8_ h9_ h10_ h11_ h12_ h13_
           have HO349 := n0_
           have BK312 := n1_
           have BK329 := n2_
           have BK336 := n3_
           have BK356 := n4_
           have GW356 := n5_
           have GE356 := n6_
           have NB312_356 := n7_
           have NB356_312 := n8_
           have NB329_356 := n9_
           have NB356_329 := n10_
           have NB336_356 := n11_
           have NB356_336 := n12_
           have HB := n13_
           clear n0_ n1_ n2_ n3_ n4_ n5_ n6_ n7_ n8_ n9_ n10_ n11_ n12_ n13_
           have hHeld : w56.cell? ⟨gb312, 0, none⟩ = some (.int .i64 a0_0) ∧ w56.cell? ⟨gb312, 1, none⟩ = some (.int .i64 a0_1) ∧ w56.cell? ⟨gb312, 2, none⟩ = some (.int .i64 a0_2) ∧ w56.cell? ⟨gb312, 3, none⟩ = some (.int .i64 a0_3) ∧ w56.cell? ⟨gb312, 4, none⟩ = some (.int .i64 a0_4) := hS_
           refine norm_ (a' := ?_) ?_ ?_
           rotate_left
           ·
            simp only [putAll, Act.put, List.setIfInBounds_toArray, List.set_cons_zero, List.set_cons_succ]
            rfl
           refine one_ (i := 10) (N := none) #[true, true, true, true, true, true, true, true, true, true, true, false] rfl rfl (one_of HT_.out (by kernel_rfl)) (by decide) (fun K hK => ?_)
           have hs57 : w56.cell? ⟨gb356, 0, none⟩ = some (.int .i64 0) := (kC BK356.out 0).trans rfl
           have hfs57 := kF BK356.out 0
           have hns57_0 := NB312_356.out
           have hns57_1 := NB329_356.out
           have hns57_2 := NB336_356.out
           have hms57_0 := NB356_312.out
           have hms57_1 := NB356_329.out
           have hms57_2 := NB356_336.out
           have hs58 : w56.cell? ⟨gb356, 1, none⟩ = some (.int .i64 0) := (kC BK356.out 1).trans rfl
           have hfs58 := kF BK356.out 1
           have hns58_0 := NB312_356.out
           have hns58_1 := NB329_356.out
           have hns58_2 := NB336_356.out
           have hms58_0 := NB356_312.out
           have hms58_1 := NB356_329.out
           have hms58_2 := NB356_336.out
           have hs59 : w56.cell? ⟨gb356, 2, none⟩ = some (.int .i64 0) := (kC BK356.out 2).trans rfl
           have hfs59 := kF BK356.out 2
           have hns59_0 := NB312_356.out
           have hns59_1 := NB329_356.out
           have hns59_2 := NB336_356.out
           have hms59_0 := NB356_312.out
           have hms59_1 := NB356_329.out
           have hms59_2 := NB356_336.out
           have hs60 : w56.cell? ⟨gb356, 3, none⟩ = some (.int .i64 0) := (kC BK356.out 3).trans rfl
           have hfs60 := kF BK356.out 3
           have hns60_0 := NB312_356.out
           have hns60_1 := NB329_356.out
           have hns60_2 := NB336_356.out
           have hms60_0 := NB356_312.out
           have hms60_1 := NB356_329.out
           have hms60_2 := NB356_336.out
           have hs61 : w56.cell? ⟨gb356, 4, none⟩ = some (.int .i64 0) := (kC BK356.out 4).trans rfl
           have hfs61 := kF BK356.out 4
           have hns61_0 := NB312_356.out
           have hns61_1 := NB329_356.out
           have hns61_2 := NB336_356.out
           have hms61_0 := NB356_312.out
           have hms61_1 := NB356_329.out
           have hms61_2 := NB356_336.out
           refine skip_ (w1 := ?_) (by rfl) rfl ?_ ?_
           rotate_left
           ·
            go_simp
            rfl
           refine hK.out _ _ ⟨((cell_far (p := ⟨gb356, _, none⟩) NB312_356.out _).trans (((cell_far (p := ⟨gb356, _, none⟩) NB312_356.out _).trans (((cell_far (p := ⟨gb356, _, none⟩) NB312_356.out _).trans (((cell_far (p := ⟨gb356, _, none⟩) NB312_356.out _).trans (((cell_far (p := ⟨gb356, _, none⟩) NB312_356.out _).trans (hHeld.1)))))))))), ((cell_far (p := ⟨gb356, _, none⟩) NB312_356.out _).trans (((cell_far (p := ⟨gb356, _, none⟩) NB312_356.out _).trans (((cell_far (p := ⟨gb356, _, none⟩) NB312_356.out _).trans (((cell_far (p := ⟨gb356, _, none⟩) NB312_356.out _).trans (((cell_far (p := ⟨gb356, _, none⟩) NB312_356.out _).trans (hHeld.2.1)))))))))), ((cell_far (p := ⟨gb356, _, none⟩) NB312_356.out _).trans (((cell_far (p := ⟨gb356, _, none⟩) NB312_356.out _).trans (((cell_far (p := ⟨gb356, _, none⟩) NB312_356.out _).trans (((cell_far (p := ⟨gb356, _, none⟩) NB312_356.out _).trans (((cell_far (p := ⟨gb356, _, none⟩) NB312_356.out _).trans (hHeld.2.2.1)))))))))), ((cell_far (p := ⟨gb356, _, none⟩) NB312_356.out _).trans (((cell_far (p := ⟨gb356, _, none⟩) NB312_356.out _).trans (((cell_far (p := ⟨gb356, _, none⟩) NB312_356.out _).trans (((cell_far (p := ⟨gb356, _, none⟩) NB312_356.out _).trans (((cell_far (p := ⟨gb356, _, none⟩) NB312_356.out _).trans (hHeld.2.2.2.1)))))))))), ((cell_far (p := ⟨gb356, _, none⟩) NB312_356.out _).trans (((cell_far (p := ⟨gb356, _, none⟩) NB312_356.out _).trans (((cell_far (p := ⟨gb356, _, none⟩) NB312_356.out _).trans (((cell_far (p := ⟨gb356, _, none⟩) NB312_356.out _).trans (((cell_far (p := ⟨gb356, _, none⟩) NB312_356.out _).trans (hHeld.2.2.2.2))))))))))⟩ (fun hHeld => ?_)
           clear hK K
           refine pure_ (i := 11) (N := some 16) (v := ?_) (a' := ?_) #[true, true, true, true, true, true, true, true, true, true, true, true] rfl rfl (any_of HT_.out (by kernel_rfl)) (fun _ _ _ h => h) (Or.inl ⟨by rfl, ?_⟩) ?_ ?_
           rotate_left
           ·
            intro w'
            go_simp
            with_reducible rfl
           rotate_left
           ·
            simp only [Act.put, List.setIfInBounds_toArray, List.set_cons_zero, List.set_cons_succ, i64_w, i32_w]
            rfl
           refine done_ (done_of HT_.out (by kernel_rfl)) ?_
           have hnb62 := NB356_312.out
           have hnc62 := NB312_356.out
           have hnb63 := NB356_329.out
           have hnc63 := NB329_356.out
           have hnb64 := NB356_336.out
           have hnc64 := NB336_356.out
           obtain ⟨hcz65_0, hcz65_1, hcz65_2, hcz65_3, hcz65_4, hfz65_0, hfz65_1, hfz65_2, hfz65_3, hfz65_4⟩ := cf5 BK356.out
           have hnb66 := NB312_329.out
           have hnc66 := NB329_312.out
           have hnb67 := NB312_336.out
           have hnc67 := NB336_312.out
           obtain ⟨hcz68_0, hcz68_1, hcz68_2, hcz68_3, hcz68_4, hfz68_0, hfz68_1, hfz68_2, hfz68_3, hfz68_4⟩ := cf5 BK312.out
           try go_wp2
           go_ret
           exact ⟨by first | rfl | (simp [errW_none, errW_some] <;> rfl) | (simp [*, errW_none, errW_some] <;> rfl), by repeat (first | (with_reducible first | exact HB.out | apply bA | apply bN | apply bD | refine bS ?_ GE312.out | refine bS ?_ GE329.out | refine bS ?_ GE336.out | refine bS ?_ GE356.out) | exact HB.out)⟩
          ·
           replace c49 := Bool.eq_false_iff.mpr c49
           subst c49
           have H1 : (some false) = some r := by rw [if_neg (show ¬ (false = true) by decide)] at H; exact H
           clear H
           have H := H1
           clear H1
           obtain rfl := Option.some.inj H
           try go_wp2
           have n0_ := mK (kD BK312.out)
           have n1_ := mK (kD BK329.out)
           have n2_ := mK (kD BK336.out)
           have n3_ := mK (bD HB.out)
           clear BK312
           clear BK329
           clear BK336
           clear HB
           have BK312 := n0_
           have BK329 := n1_
           have BK336 := n2_
           have HB := n3_
           clear n0_ n1_ n2_ n3_
           refine start_ (n := 12) (S := fun w' => w'.cell? ⟨gb312, 0, none⟩ = some (.int .i64 a0_0) ∧ w'.cell? ⟨gb312, 1, none⟩ = some (.int .i64 a0_1) ∧ w'.cell? ⟨gb312, 2, none⟩ = some (.int .i64 a0_2) ∧ w'.cell? ⟨gb312, 3, none⟩ = some (.int .i64 a0_3) ∧ w'.cell? ⟨gb312, 4, none⟩ = some (.int .i64 a0_4)) (ds := []) #[false, false, false, false, false, false, false, false, false, false, false, false] (by kernel_rfl) rfl rfl ⟨(kC BK312.out 0).trans rfl, (kC BK312.out 1).trans rfl, (kC BK312.out 2).trans rfl, (kC BK312.out 3).trans rfl, (kC BK312.out 4).trans rfl⟩ (fun hHeld => ?_); refine with_tabW pascalinelaw02_InstrTexts.tab15 pascalinelaw02_InstrTexts.bits15 (fun HT_ HW_ => ?_)
           generalize wc.drew = w69 at BK312 BK329 BK336 HB hHeld ⊢
           refine pure_ (i := 0) (N := some 68) (v := ?_) (a' := ?_) #[true, false, false, false, false, false, false, false, false, false, false, false] rfl rfl (any_of HT_.out (by kernel_rfl)) (fun _ _ _ h => h) (Or.inl ⟨by rfl, ?_⟩) ?_ ?_
           rotate_left
           ·
            intro w'
            go_simp
            with_reducible rfl
           rotate_left
           ·
            simp only [Act.put, List.setIfInBounds_toArray, List.set_cons_zero, List.set_cons_succ, i64_w, i32_w]
            rfl
           refine take_ (i := 1) (N := some 69) (v := ?_) (a' := ?_) #[true, true, false, false, false, false, false, false, false, false, false, false] rfl rfl (take_ofW HT_.out HW_.out (by kernel_rfl)) (fun _ _ _ h => h) (Or.inl ⟨by rfl, ?_⟩) hHeld ?_ ?_
           rotate_left
           ·
            rintro w' ⟨s0, s1, s2, s3, s4⟩
            go_simp
            with_reducible rfl
           rotate_left
           ·
            simp only [Act.put, List.setIfInBounds_toArray, List.set_cons_zero, List.set_cons_succ, i64_w, i32_w]
            rfl
           refine take_ (i := 2) (N := some 70) (v := ?_) (a' := ?_) #[true, true, true, false, false, false, false, false, false, false, false, false] rfl rfl (take_ofW HT_.out HW_.out (by kernel_rfl)) (fun _ _ _ h => h) (Or.inl ⟨by rfl, ?_⟩) hHeld ?_ ?_
           rotate_left
           ·
            rintro w' ⟨s0, s1, s2, s3, s4⟩
            go_simp
            with_reducible rfl
           rotate_left
           ·
            simp only [Act.put, List.setIfInBounds_toArray, List.set_cons_zero, List.set_cons_succ, i64_w, i32_w]
            rfl
           refine join_ (σ := Value × Nat) 2 #[true, true, true, true, true, true, true, true, true, true, false, false] (fun s_ => [(71, .agg #[.int .i64 t342, .int .i64 t343, .int .i64 t344, .int .i64 t345, .int .i64 t346]), (72, s_.1), (73, .tuple #[.agg #[.int .i64 t350, .int .i64 t351, .int .i64 t352, .int .i64 t353, .int .i64 t354], .bool false]), (15, .pointer (some ⟨s_.2, 0, none⟩)), (67, .tuple #[.agg #[.int .i64 t350, .int .i64 t351, .int .i64 t352, .int .i64 t353, .int .i64 t354], .bool false]), (74, .agg #[.int .i64 t350, .int .i64 t351, .int .i64 t352, .int .i64 t353, .int .i64 t354]), (75, .bool false)]) (fun s_ w' => (w'.cell? ⟨gb312, 0, none⟩ = some (.int .i64 a0_0) ∧ w'.cell? ⟨gb312, 1, none⟩ = some (.int .i64 a0_1) ∧ w'.cell? ⟨gb312, 2, none⟩ = some (.int .i64 a0_2) ∧ w'.cell? ⟨gb312, 3, none⟩ = some (.int .i64 a0_3) ∧ w'.cell? ⟨gb312, 4, none⟩ = some (.int .i64 a0_4)) ∧ (Kd.R Kd.string 9 w' w.heap.size (fun _ => True) s_.1 t347) ∧ (w'.heap[gb312]? = some (o5 a0_0 a0_1 a0_2 a0_3 a0_4 23)) ∧ (w'.heap[gb329]? = some (o5 t323 t324 t325 t326 t327 23)) ∧ (w'.heap[gb336]? = some (o5 t330 t331 t332 t333 t334 31)) ∧ (w'.heap[s_.2]? = some (o5 0 0 0 0 0 23)) ∧ (w.heap.size ≤ s_.2) ∧ (w.heap.size ≤ s_.2) ∧ (gb312 ≠ s_.2) ∧ (s_.2 ≠ gb312) ∧ (gb329 ≠ s_.2) ∧ (s_.2 ≠ gb329) ∧ (gb336 ≠ s_.2) ∧ (s_.2 ≠ gb336) ∧ (Below w.heap.size w w')) ?_ ?_
           rotate_left
           ·
            intro hCont
            refine two_ (i := 3) (j := 9) (Ni := some 71) (Nj := some 15) #[true, true, true, true, false, false, false, false, false, false, false, false] #[true, true, true, false, false, false, false, false, false, true, false, false] rfl rfl rfl rfl (two_of HT_.out (by kernel_rfl)) (by decide) (by decide) (fun K hK => ?_) (fun K hK => ?_)
            ·
             skip
             refine goes_ Try.func11 (by kernel_rfl) rfl #[.agg #[.int .i64 a0_0, .int .i64 a0_1, .int .i64 a0_2, .int .i64 a0_3, .int .i64 a0_4]] (by rfl) rfl rfl (by (try simp only [List.map_toArray, List.map_cons, List.map_nil]); first | done | rfl) ?_
             with_reducible refine (pascalinelaw02_Ref.calls a0_0 a0_1 a0_2 a0_3 a0_4 t342 t343 t344 t345 t346 _ A46.out).mono ?_
             rintro e w70 ⟨rfl, hb⟩
             refine ⟨_, rfl, ?_⟩
             have n0_ := mK (kB (g := gb312) (o := o5 a0_0 a0_1 a0_2 a0_3 a0_4 23) (by (with_reducible repeat (first | refine kN ?_ _ | refine kD ?_ | refine kA ?_ _)); exact BK312.out) hb)
             have n1_ := mK (kB (g := gb329) (o := o5 t323 t324 t325 t326 t327 23) (by (with_reducible repeat (first | refine kN ?_ _ | refine kD ?_ | refine kA ?_ _)); exact BK329.out) hb)
             have n2_ := mK (kB (g := gb336) (o := o5 t330 t331 t332 t333 t334 31) (by (with_reducible repeat (first | refine kN ?_ _ | refine kD ?_ | refine kA ?_ _)); exact BK336.out) hb)
             have n3_ := mK (bP (by repeat (first | (with_reducible first | exact HB.out | apply bA | apply bN | apply bD | refine bS ?_ GE312.out | refine bS ?_ GE329.out | refine bS ?_ GE336.out) | exact HB.out)) hb)
             clear BK312
             clear BK329
             clear BK336
             clear HB
             have BK312 := n0_
             have BK329 := n1_
             have BK336 := n2_
             have HB := n3_
             clear n0_ n1_ n2_ n3_
             (try clear hb)
             refine hK.out _ _ ⟨(kC BK312.out 0).trans rfl, (kC BK312.out 1).trans rfl, (kC BK312.out 2).trans rfl, (kC BK312.out 3).trans rfl, (kC BK312.out 4).trans rfl⟩ (fun hHeld => ?_)
             clear hK K
             refine norm_ (a' := ?_) ?_ ?_
             rotate_left
             ·
              show Act.put _ (some 71) _ = _
              simp only [Act.put, List.setIfInBounds_toArray, List.set_cons_zero, List.set_cons_succ, i64_w, i32_w]
              rfl
             refine two_ (i := 4) (j := 9) (Ni := some 72) (Nj := some 15) #[true, true, true, true, true, false, false, false, false, false, false, false] #[true, true, true, true, false, false, false, false, false, true, false, false] rfl rfl rfl rfl (two_of HT_.out (by kernel_rfl)) (by decide) (by decide) (fun K hK => ?_) (fun K hK => ?_)
             ·
              skip
              refine goes_ Try.func24 (by kernel_rfl) rfl #[.agg #[.int .i64 t342, .int .i64 t343, .int .i64 t344, .int .i64 t345, .int .i64 t346]] (by rfl) rfl rfl (by (try simp only [List.map_toArray, List.map_cons, List.map_nil]); first | done | rfl) ?_
              with_reducible refine (pascalineref02_Fields.calls kj23 t342 t343 t344 t345 t346 t347 _ A47.out).mono ?_
              rintro e w71 ⟨v348, rfl, ho0, hb⟩
              refine ⟨_, rfl, ?_⟩
              have n0_ := mK (Kd.R_lower ho0 (bZ (by repeat (first | (with_reducible first | exact HB.out | apply bA | apply bN | apply bD | refine bS ?_ GE312.out | refine bS ?_ GE329.out | refine bS ?_ GE336.out) | exact HB.out))))
              have n1_ := mK (kB (g := gb312) (o := o5 a0_0 a0_1 a0_2 a0_3 a0_4 23) (by (with_reducible repeat (first | refine kN ?_ _ | refine kD ?_ | refine kA ?_ _)); exact BK312.out) hb)
              have n2_ := mK (kB (g := gb329) (o := o5 t323 t324 t325 t326 t327 23) (by (with_reducible repeat (first | refine kN ?_ _ | refine kD ?_ | refine kA ?_ _)); exact BK329.out) hb)
              have n3_ := mK (kB (g := gb336) (o := o5 t330 t331 t332 t333 t334 31) (by (with_reducible repeat (first | refine kN ?_ _ | refine kD ?_ | refine kA ?_ _)); exact BK336.out) hb)
              have n4_ := mK (bP (by repeat (first | (with_reducible first | exact HB.out | apply bA | apply bN | apply bD | refine bS ?_ GE312.out | refine bS ?_ GE329.out | refine bS ?_ GE336.out) | exact HB.out)) hb)
              clear BK312
              clear BK329
              clear BK336
              clear HB
              have HO349 := n0_
              have BK312 := n1_
              have BK329 := n2_
              have BK336 := n3_
              have HB := n4_
              clear n0_ n1_ n2_ n3_ n4_
              (try clear hb)
              (try clear ho0)
              obtain ⟨Ao72, co72, eo72⟩ := Kd.R_slice HO349.out
              (first | subst eo72 | (injection eo72 with f1_ f2_ f3_; have f4_ := f1_.symm; have f5_ := f3_.symm; clear f1_ f2_ f3_; subst f4_; subst f5_))
              refine hK.out _ _ ⟨(kC BK312.out 0).trans rfl, (kC BK312.out 1).trans rfl, (kC BK312.out 2).trans rfl, (kC BK312.out 3).trans rfl, (kC BK312.out 4).trans rfl⟩ (fun hHeld => ?_)
              clear hK K
              refine norm_ (a' := ?_) ?_ ?_
              rotate_left
              ·
               show Act.put _ (some 72) _ = _
               simp only [Act.put, List.setIfInBounds_toArray, List.set_cons_zero, List.set_cons_succ, i64_w, i32_w]
               rfl
              refine two_ (i := 5) (j := 9) (Ni := some 73) (Nj := some 15) #[true, true, true, true, true, true, false, false, false, false, false, false] #[true, true, true, true, true, false, false, false, false, true, false, false] rfl rfl rfl rfl (two_of HT_.out (by kernel_rfl)) (by decide) (by decide) (fun K hK => ?_) (fun K hK => ?_)
              ·
               skip
               refine goes_ Try.func22 (by kernel_rfl) rfl #[.int .i64 a0_0, .slice Ao72 t347.length co72] (by rfl) rfl rfl (by (try simp only [List.map_toArray, List.map_cons, List.map_nil]); first | done | rfl) ?_
               with_reducible refine (instr_Fill.calls kj23 a0_0 _ _ t347 t350 t351 t352 t353 t354 false _ ?side1 ?side2 A48.out).mono ?_
               (case side1 => repeat (first | exact (Kd.R_reads' HO349.out).2.2 | (with_reducible refine Kd.C_alloc ?_ _) | (with_reducible refine Kd.C_drewN ?_ _) | (with_reducible refine Kd.C_drew ?_)))
               (case side2 => exact (Kd.R_reads' HO349.out).2.1)
               rintro e w73 ⟨rfl, hb⟩
               refine ⟨_, rfl, ?_⟩
               have n0_ := mK (Kd.R_below (by (with_reducible repeat (first | apply Kd.R_alloc | apply Kd.R_drewN | apply Kd.R_drew)); exact HO349.out) hb)
               have n1_ := mK (kB (g := gb312) (o := o5 a0_0 a0_1 a0_2 a0_3 a0_4 23) (by (with_reducible repeat (first | refine kN ?_ _ | refine kD ?_ | refine kA ?_ _)); exact BK312.out) hb)
               have n2_ := mK (kB (g := gb329) (o := o5 t323 t324 t325 t326 t327 23) (by (with_reducible repeat (first | refine kN ?_ _ | refine kD ?_ | refine kA ?_ _)); exact BK329.out) hb)
               have n3_ := mK (kB (g := gb336) (o := o5 t330 t331 t332 t333 t334 31) (by (with_reducible repeat (first | refine kN ?_ _ | refine kD ?_ | refine kA ?_ _)); exact BK336.out) hb)
               have n4_ := mK (bP (by repeat (first | (with_reducible first | exact HB.out | apply bA | apply bN | apply bD | refine bS ?_ GE312.out | refine bS ?_ GE329.out | refine bS ?_ GE336.out) | exact HB.out)) hb)
               clear HO349
               clear BK312
               clear BK329
               clear BK336
               clear HB
               have HO349 := n0_
               have BK312 := n1_
               have BK329 := n2_
               have BK336 := n3_
               have HB := n4_
               clear n0_ n1_ n2_ n3_ n4_
               (try clear hb)
               refine hK.out _ _ ⟨(kC BK312.out 0).trans rfl, (kC BK312.out 1).trans rfl, (kC BK312.out 2).trans rfl, (kC BK312.out 3).trans rfl, (kC BK312.out 4).trans rfl⟩ (fun hHeld => ?_)
               clear hK K
               refine norm_ (a' := ?_) ?_ ?_
               rotate_left
               ·
                show Act.put _ (some 73) _ = _
                simp only [Act.put, List.setIfInBounds_toArray, List.set_cons_zero, List.set_cons_succ, i64_w, i32_w]
                rfl
               refine pure_ (i := 6) (N := some 67) (v := ?_) (a' := ?_) #[true, true, true, true, true, true, true, false, false, false, false, false] rfl rfl (any_of HT_.out (by kernel_rfl)) (fun _ _ _ h => h) (Or.inl ⟨by rfl, ?_⟩) ?_ ?_
               rotate_left
               ·
                intro w'
                go_simp
                with_reducible rfl
               rotate_left
               ·
                simp only [Act.put, List.setIfInBounds_toArray, List.set_cons_zero, List.set_cons_succ, i64_w, i32_w]
                rfl
               refine pure_ (i := 7) (N := some 74) (v := ?_) (a' := ?_) #[true, true, true, true, true, true, true, true, false, false, false, false] rfl rfl (any_of HT_.out (by kernel_rfl)) (fun _ _ _ h => h) (Or.inl ⟨by rfl, ?_⟩) ?_ ?_
               rotate_left
               ·
                intro w'
                go_simp
                with_reducible rfl
               rotate_left
               ·
                simp only [Act.put, List.setIfInBounds_toArray, List.set_cons_zero, List.set_cons_succ, i64_w, i32_w]
                rfl
               refine pure_ (i := 8) (N := some 75) (v := ?_) (a' := ?_) #[true, true, true, true, true, true, true, true, true, false, false, false] rfl rfl (any_of HT_.out (by kernel_rfl)) (fun _ _ _ h => h) (Or.inl ⟨by rfl, ?_⟩) ?_ ?_
               rotate_left
               ·
                intro w'
                go_simp
                with_reducible rfl
               rotate_left
               ·
                simp only [Act.put, List.setIfInBounds_toArray, List.set_cons_zero, List.set_cons_succ, i64_w, i32_w]
                rfl
               refine one_ (i := 9) (N := some 15) #[true, true, true, true, true, true, true, true, true, true, false, false] rfl rfl (one_of HT_.out (by kernel_rfl)) (by decide) (fun K hK => ?_)
               refine box_step ?hg (N := 15) ?hd (cs := #[.int .i64 0, .int .i64 0, .int .i64 0, .int .i64 0, .int .i64 0]) (t := 23) ?hr ?_; (case hd => rfl); (case hg => rfl); (case hr => first | (go_simp; done) | (go_simp; rfl))
               intro gb356 hg w74 hbox hb
               have n0_ := mK (Kd.R_below (by (with_reducible repeat (first | apply Kd.R_alloc | apply Kd.R_drewN | apply Kd.R_drew)); exact HO349.out) hb)
               have n1_ := mK (kB (g := gb312) (o := o5 a0_0 a0_1 a0_2 a0_3 a0_4 23) (by (with_reducible repeat (first | refine kN ?_ _ | refine kD ?_ | refine kA ?_ _)); exact BK312.out) hb)
               have n2_ := mK (kB (g := gb329) (o := o5 t323 t324 t325 t326 t327 23) (by (with_reducible repeat (first | refine kN ?_ _ | refine kD ?_ | refine kA ?_ _)); exact BK329.out) hb)
               have n3_ := mK (kB (g := gb336) (o := o5 t330 t331 t332 t333 t334 31) (by (with_reducible repeat (first | refine kN ?_ _ | refine kD ?_ | refine kA ?_ _)); exact BK336.out) hb)
               have n4_ := mK (bP (by repeat (first | (with_reducible first | exact HB.out | apply bA | apply bN | apply bD | refine bS ?_ GE312.out | refine bS ?_ GE329.out | refine bS ?_ GE336.out) | exact HB.out)) hb)
               have n5_ := mK (hbox)
               have n6_ := mK ((by rw [hg]; exact (bZ (by repeat (first | (with_reducible first | exact HB.out | apply bA | apply bN | apply bD | refine bS ?_ GE312.out | refine bS ?_ GE329.out | refine bS ?_ GE336.out) | exact HB.out))) : w.heap.size ≤ gb356))
               have n7_ := mK ((by rw [hg]; exact (bZ (by repeat (first | (with_reducible first | exact HB.out | apply bA | apply bN | apply bD | refine bS ?_ GE312.out | refine bS ?_ GE329.out | refine bS ?_ GE336.out) | exact HB.out))) : w.heap.size ≤ gb356))
               have n8_ := mK ((by rw [hg]; exact Nat.ne_of_lt (blk_lt (g := gb312) (o := o5 a0_0 a0_1 a0_2 a0_3 a0_4 23) (by (with_reducible repeat (first | refine kN ?_ _ | refine kD ?_ | refine kA ?_ _)); exact BK312.out)) : gb312 ≠ gb356))
               have n9_ := mK ((by rw [hg]; exact Nat.ne_of_gt (blk_lt (g := gb312) (o := o5 a0_0 a0_1 a0_2 a0_3 a0_4 23) (by (with_reducible repeat (first | refine kN ?_ _ | refine kD ?_ | refine kA ?_ _)); exact BK312.out)) : gb356 ≠ gb312))
               have n10_ := mK ((by rw [hg]; exact Nat.ne_of_lt (blk_lt (g := gb329) (o := o5 t323 t324 t325 t326 t327 23) (by (with_reducible repeat (first | refine kN ?_ _ | refine kD ?_ | refine kA ?_ _)); exact BK329.out)) : gb329 ≠ gb356))
               have n11_ := mK ((by rw [hg]; exact Nat.ne_of_gt (blk_lt (g := gb329) (o := o5 t323 t324 t325 t326 t327 23) (by (with_reducible repeat (first | refine kN ?_ _ | refine kD ?_ | refine kA ?_ _)); exact BK329.out)) : gb356 ≠ gb329))
               have n12_ := mK ((by rw [hg]; exact Nat.ne_of_lt (blk_lt (g := gb336) (o := o5 t330 t331 t332 t333 t334 31) (by (with_reducible repeat (first | refine kN ?_ _ | refine kD ?_ | refine kA ?_ _)); exact BK336.out)) : gb336 ≠ gb356))
               have n13_ := mK ((by rw [hg]; exact Nat.ne_of_gt (blk_lt (g := gb336) (o := o5 t330 t331 t332 t333 t334 31) (by (with_reducible repeat (first | refine kN ?_ _ | refine kD ?_ | refine kA ?_ _)); exact BK336.out)) : gb356 ≠ gb336))
               clear HO349
               clear BK312
               clear BK329
               clear BK336
               clear HB
               have HO349 := n0_
               have BK312 := n1_
               have BK329 := n2_
               have BK336 := n3_
               have HB := n4_
               have BK356 := n5_
               have GW356 := n6_
               have GE356 := n7_
               have NB312_356 := n8_
               have NB356_312 := n9_
               have NB329_356 := n10_
               have NB356_329 := n11_
               have NB336_356 := n12_
               have NB356_336 := n13_
               clear n0_ n1_ n2_ n3_ n4_ n5_ n6_ n7_ n8_ n9_ n10_ n11_ n12_ n13_
               clear hb hbox hg
               refine hK.out _ _ ⟨(kC BK312.out 0).trans rfl, (kC BK312.out 1).trans rfl, (kC BK312.out 2).trans rfl, (kC BK312.out 3).trans rfl, (kC BK312.out 4).trans rfl⟩ (fun hHeld => ?_)
               clear hK K
               refine norm_ (a' := ?_) ?_ ?_
               rotate_left
               ·
                show Act.put _ (some 15) _ = _
                simp only [Act.put, List.setIfInBounds_toArray, List.set_cons_zero, List.set_cons_succ, i64_w, i32_w]
                rfl
               exact norm_ (by simp only [putAll, Act.put, List.setIfInBounds_toArray, List.set_cons_zero, List.set_cons_succ]) (hCont (.slice Ao72 t347.length co72, gb356) _ ⟨hHeld, (by (with_reducible repeat (first | apply Kd.R_alloc | apply Kd.R_drewN | apply Kd.R_drew)); exact HO349.out), (by (with_reducible repeat (first | refine kN ?_ _ | refine kD ?_ | refine kA ?_ _)); exact BK312.out), (by (with_reducible repeat (first | refine kN ?_ _ | refine kD ?_ | refine kA ?_ _)); exact BK329.out), (by (with_reducible repeat (first | refine kN ?_ _ | refine kD ?_ | refine kA ?_ _)); exact BK336.out), (by (with_reducible repeat (first | refine kN ?_ _ | refine kD ?_ | refine kA ?_ _)); exact BK356.out), GW356.out, GE356.out, NB312_356.out, NB356_312.out, NB329_356.out, NB356_329.out, NB336_356.out, NB356_336.out, (by repeat (first | (with_reducible first | exact HB.out | apply bA | apply bN | apply bD | refine bS ?_ GE312.out | refine bS ?_ GE329.out | refine bS ?_ GE336.out | refine bS ?_ GE356.out) | exact HB.out))⟩)
              ·
               skip
               refine box_step ?hg (N := 15) ?hd (cs := #[.int .i64 0, .int .i64 0, .int .i64 0, .int .i64 0, .int .i64 0]) (t := 23) ?hr ?_; (case hd => rfl); (case hg => rfl); (case hr => first | (go_simp; done) | (go_simp; rfl))
               intro gb356 hg w72 hbox hb
               have n0_ := mK (Kd.R_below (by (with_reducible repeat (first | apply Kd.R_alloc | apply Kd.R_drewN | apply Kd.R_drew)); exact HO349.out) hb)
               have n1_ := mK (kB (g := gb312) (o := o5 a0_0 a0_1 a0_2 a0_3 a0_4 23) (by (with_reducible repeat (first | refine kN ?_ _ | refine kD ?_ | refine kA ?_ _)); exact BK312.out) hb)
               have n2_ := mK (kB (g := gb329) (o := o5 t323 t324 t325 t326 t327 23) (by (with_reducible repeat (first | refine kN ?_ _ | refine kD ?_ | refine kA ?_ _)); exact BK329.out) hb)
               have n3_ := mK (kB (g := gb336) (o := o5 t330 t331 t332 t333 t334 31) (by (with_reducible repeat (first | refine kN ?_ _ | refine kD ?_ | refine kA ?_ _)); exact BK336.out) hb)
               have n4_ := mK (bP (by repeat (first | (with_reducible first | exact HB.out | apply bA | apply bN | apply bD | refine bS ?_ GE312.out | refine bS ?_ GE329.out | refine bS ?_ GE336.out) | exact HB.out)) hb)
               have n5_ := mK (hbox)
               have n6_ := mK ((by rw [hg]; exact (bZ (by repeat (first | (with_reducible first | exact HB.out | apply bA | apply bN | apply bD | refine bS ?_ GE312.out | refine bS ?_ GE329.out | refine bS ?_ GE336.out) | exact HB.out))) : w.heap.size ≤ gb356))
               have n7_ := mK ((by rw [hg]; exact (bZ (by repeat (first | (with_reducible first | exact HB.out | apply bA | apply bN | apply bD | refine bS ?_ GE312.out | refine bS ?_ GE329.out | refine bS ?_ GE336.out) | exact HB.out))) : w.heap.size ≤ gb356))
               have n8_ := mK ((by rw [hg]; exact Nat.ne_of_lt (blk_lt (g := gb312) (o := o5 a0_0 a0_1 a0_2 a0_3 a0_4 23) (by (with_reducible repeat (first | refine kN ?_ _ | refine kD ?_ | refine kA ?_ _)); exact BK312.out)) : gb312 ≠ gb356))
               have n9_ := mK ((by rw [hg]; exact Nat.ne_of_gt (blk_lt (g := gb312) (o := o5 a0_0 a0_1 a0_2 a0_3 a0_4 23) (by (with_reducible repeat (first | refine kN ?_ _ | refine kD ?_ | refine kA ?_ _)); exact BK312.out)) : gb356 ≠ gb312))
               have n10_ := mK ((by rw [hg]; exact Nat.ne_of_lt (blk_lt (g := gb329) (o := o5 t323 t324 t325 t326 t327 23) (by (with_reducible repeat (first | refine kN ?_ _ | refine kD ?_ | refine kA ?_ _)); exact BK329.out)) : gb329 ≠ gb356))
               have n11_ := mK ((by rw [hg]; exact Nat.ne_of_gt (blk_lt (g := gb329) (o := o5 t323 t324 t325 t326 t327 23) (by (with_reducible repeat (first | refine kN ?_ _ | refine kD ?_ | refine kA ?_ _)); exact BK329.out)) : gb356 ≠ gb329))
               have n12_ := mK ((by rw [hg]; exact Nat.ne_of_lt (blk_lt (g := gb336) (o := o5 t330 t331 t332 t333 t334 31) (by (with_reducible repeat (first | refine kN ?_ _ | refine kD ?_ | refine kA ?_ _)); exact BK336.out)) : gb336 ≠ gb356))
               have n13_ := mK ((by rw [hg]; exact Nat.ne_of_gt (blk_lt (g := gb336) (o := o5 t330 t331 t332 t333 t334 31) (by (with_reducible repeat (first | refine kN ?_ _ | refine kD ?_ | refine kA ?_ _)); exact BK336.out)) : gb356 ≠ gb336))
               clear HO349
               clear BK312
               clear BK329
               clear BK336
               clear HB
               have HO349 := n0_
               have BK312 := n1_
               have BK329 := n2_
               have BK336 := n3_
               have HB := n4_
               have BK356 := n5_
               have GW356 := n6_
               have GE356 := n7_
               have NB312_356 := n8_
               have NB356_312 := n9_
               have NB329_356 := n10_
               have NB356_329 := n11_
               have NB336_356 := n12_
               have NB356_336 := n13_
               clear n0_ n1_ n2_ n3_ n4_ n5_ n6_ n7_ n8_ n9_ n10_ n11_ n12_ n13_
               clear hb hbox hg
               obtain ⟨Ao73, co73, eo73⟩ := Kd.R_slice HO349.out
               (first | subst eo73 | (injection eo73 with f1_ f2_ f3_; have f4_ := f1_.symm; have f5_ := f3_.symm; clear f1_ f2_ f3_; subst f4_; subst f5_))
               refine hK.out _ _ ⟨(kC BK312.out 0).trans rfl, (kC BK312.out 1).trans rfl, (kC BK312.out 2).trans rfl, (kC BK312.out 3).trans rfl, (kC BK312.out 4).trans rfl⟩ (fun hHeld => ?_)
               clear hK K
               refine norm_ (a' := ?_) ?_ ?_
               rotate_left
               ·
                show Act.put _ (some 15) _ = _
                simp only [Act.put, List.setIfInBounds_toArray, List.set_cons_zero, List.set_cons_succ, i64_w, i32_w]
                rfl
               refine one_ (i := 5) (N := some 73) #[true, true, true, true, true, true, false, false, false, true, false, false] rfl rfl (one_of HT_.out (by kernel_rfl)) (by decide) (fun K hK => ?_)
               refine goes_ Try.func22 (by kernel_rfl) rfl #[.int .i64 a0_0, .slice Ao73 t347.length co73] (by rfl) rfl rfl (by (try simp only [List.map_toArray, List.map_cons, List.map_nil]); first | done | rfl) ?_
               with_reducible refine (instr_Fill.calls kj23 a0_0 _ _ t347 t350 t351 t352 t353 t354 false _ ?side1 ?side2 A48.out).mono ?_
               (case side1 => repeat (first | exact (Kd.R_reads' HO349.out).2.2 | (with_reducible refine Kd.C_alloc ?_ _) | (with_reducible refine Kd.C_drewN ?_ _) | (with_reducible refine Kd.C_drew ?_)))
               (case side2 => exact (Kd.R_reads' HO349.out).2.1)
               rintro e w74 ⟨rfl, hb⟩
               refine ⟨_, rfl, ?_⟩
               have n0_ := mK (Kd.R_below (by (with_reducible repeat (first | apply Kd.R_alloc | apply Kd.R_drewN | apply Kd.R_drew)); exact HO349.out) hb)
               have n1_ := mK (kB (g := gb312) (o := o5 a0_0 a0_1 a0_2 a0_3 a0_4 23) (by (with_reducible repeat (first | refine kN ?_ _ | refine kD ?_ | refine kA ?_ _)); exact BK312.out) hb)
               have n2_ := mK (kB (g := gb329) (o := o5 t323 t324 t325 t326 t327 23) (by (with_reducible repeat (first | refine kN ?_ _ | refine kD ?_ | refine kA ?_ _)); exact BK329.out) hb)
               have n3_ := mK (kB (g := gb336) (o := o5 t330 t331 t332 t333 t334 31) (by (with_reducible repeat (first | refine kN ?_ _ | refine kD ?_ | refine kA ?_ _)); exact BK336.out) hb)
               have n4_ := mK (kB (g := gb356) (o := o5 0 0 0 0 0 23) (by (with_reducible repeat (first | refine kN ?_ _ | refine kD ?_ | refine kA ?_ _)); exact BK356.out) hb)
               have n5_ := mK (bP (by repeat (first | (with_reducible first | exact HB.out | apply bA | apply bN | apply bD | refine bS ?_ GE312.out | refine bS ?_ GE329.out | refine bS ?_ GE336.out | refine bS ?_ GE356.out) | exact HB.out)) hb)
               clear HO349
               clear BK312
               clear BK329
               clear BK336
               clear BK356
               clear HB
               have HO349 := n0_
               have BK312 := n1_
               have BK329 := n2_
               have BK336 := n3_
               have BK356 := n4_
               have HB := n5_
               clear n0_ n1_ n2_ n3_ n4_ n5_
               (try clear hb)
               refine hK.out _ _ ⟨(kC BK312.out 0).trans rfl, (kC BK312.out 1).trans rfl, (kC BK312.out 2).trans rfl, (kC BK312.out 3).trans rfl, (kC BK312.out 4).trans rfl⟩ (fun hHeld => ?_)
               clear hK K
               refine norm_ (a' := ?_) ?_ ?_
               rotate_left
               ·
                show Act.put _ (some 73) _ = _
                simp only [Act.put, List.setIfInBounds_toArray, List.set_cons_zero, List.set_cons_succ, i64_w, i32_w]
                rfl
               refine pure_ (i := 6) (N := some 67) (v := ?_) (a' := ?_) #[true, true, true, true, true, true, true, false, false, true, false, false] rfl rfl (any_of HT_.out (by kernel_rfl)) (fun _ _ _ h => h) (Or.inl ⟨by rfl, ?_⟩) ?_ ?_
               rotate_left
               ·
                intro w'
                go_simp
                with_reducible rfl
               rotate_left
               ·
                simp only [Act.put, List.setIfInBounds_toArray, List.set_cons_zero, List.set_cons_succ, i64_w, i32_w]
                rfl
               refine pure_ (i := 7) (N := some 74) (v := ?_) (a' := ?_) #[true, true, true, true, true, true, true, true, false, true, false, false] rfl rfl (any_of HT_.out (by kernel_rfl)) (fun _ _ _ h => h) (Or.inl ⟨by rfl, ?_⟩) ?_ ?_
               rotate_left
               ·
                intro w'
                go_simp
                with_reducible rfl
               rotate_left
               ·
                simp only [Act.put, List.setIfInBounds_toArray, List.set_cons_zero, List.set_cons_succ, i64_w, i32_w]
                rfl
               refine pure_ (i := 8) (N := some 75) (v := ?_) (a' := ?_) #[true, true, true, true, true, true, true, true, true, true, false, false] rfl rfl (any_of HT_.out (by kernel_rfl)) (fun _ _ _ h => h) (Or.inl ⟨by rfl, ?_⟩) ?_ ?_
               rotate_left
               ·
                intro w'
                go_simp
                with_reducible rfl
               rotate_left
               ·
                simp only [Act.put, List.setIfInBounds_toArray, List.set_cons_zero, List.set_cons_succ, i64_w, i32_w]
                rfl
               exact norm_ (by simp only [putAll, Act.put, List.setIfInBounds_toArray, List.set_cons_zero, List.set_cons_succ]) (hCont (.slice Ao73 t347.length co73, gb356) _ ⟨hHeld, (by (with_reducible repeat (first | apply Kd.R_alloc | apply Kd.R_drewN | apply Kd.R_drew)); exact HO349.out), (by (with_reducible repeat (first | refine kN ?_ _ | refine kD ?_ | refine kA ?_ _)); exact BK312.out), (by (with_reducible repeat (first | refine kN ?_ _ | refine kD ?_ | refine kA ?_ _)); exact BK329.out), (by (with_reducible repeat (first | refine kN ?_ _ | refine kD ?_ | refine kA ?_ _)); exact BK336.out), (by (with_reducible repeat (first | refine kN ?_ _ | refine kD ?_ | refine kA ?_ _)); exact BK356.out), GW356.out, GE356.out, NB312_356.out, NB356_312.out, NB329_356.out, NB356_329.out, NB336_356.out, NB356_336.out, (by repeat (first | (with_reducible first | exact HB.out | apply bA | apply bN | apply bD | refine bS ?_ GE312.out | refine bS ?_ GE329.out | refine bS ?_ GE336.out | refine bS ?_ GE356.out) | exact HB.out))⟩)
             ·
              skip
              refine box_step ?hg (N := 15) ?hd (cs := #[.int .i64 0, .int .i64 0, .int .i64 0, .int .i64 0, .int .i64 0]) (t := 23) ?hr ?_; (case hd => rfl); (case hg => rfl); (case hr => first | (go_simp; done) | (go_simp; rfl))
              intro gb356 hg w71 hbox hb
              have n0_ := mK (kB (g := gb312) (o := o5 a0_0 a0_1 a0_2 a0_3 a0_4 23) (by (with_reducible repeat (first | refine kN ?_ _ | refine kD ?_ | refine kA ?_ _)); exact BK312.out) hb)
              have n1_ := mK (kB (g := gb329) (o := o5 t323 t324 t325 t326 t327 23) (by (with_reducible repeat (first | refine kN ?_ _ | refine kD ?_ | refine kA ?_ _)); exact BK329.out) hb)
              have n2_ := mK (kB (g := gb336) (o := o5 t330 t331 t332 t333 t334 31) (by (with_reducible repeat (first | refine kN ?_ _ | refine kD ?_ | refine kA ?_ _)); exact BK336.out) hb)
              have n3_ := mK (bP (by repeat (first | (with_reducible first | exact HB.out | apply bA | apply bN | apply bD | refine bS ?_ GE312.out | refine bS ?_ GE329.out | refine bS ?_ GE336.out) | exact HB.out)) hb)
              have n4_ := mK (hbox)
              have n5_ := mK ((by rw [hg]; exact (bZ (by repeat (first | (with_reducible first | exact HB.out | apply bA | apply bN | apply bD | refine bS ?_ GE312.out | refine bS ?_ GE329.out | refine bS ?_ GE336.out) | exact HB.out))) : w.heap.size ≤ gb356))
              have n6_ := mK ((by rw [hg]; exact (bZ (by repeat (first | (with_reducible first | exact HB.out | apply bA | apply bN | apply bD | refine bS ?_ GE312.out | refine bS ?_ GE329.out | refine bS ?_ GE336.out) | exact HB.out))) : w.heap.size ≤ gb356))
              have n7_ := mK ((by rw [hg]; exact Nat.ne_of_lt (blk_lt (g := gb312) (o := o5 a0_0 a0_1 a0_2 a0_3 a0_4 23) (by (with_reducible repeat (first | refine kN ?_ _ | refine kD ?_ | refine kA ?_ _)); exact BK312.out)) : gb312 ≠ gb356))
              have n8_ := mK ((by rw [hg]; exact Nat.ne_of_gt (blk_lt (g := gb312) (o := o5 a0_0 a0_1 a0_2 a0_3 a0_4 23) (by (with_reducible repeat (first | refine kN ?_ _ | refine kD ?_ | refine kA ?_ _)); exact BK312.out)) : gb356 ≠ gb312))
              have n9_ := mK ((by rw [hg]; exact Nat.ne_of_lt (blk_lt (g := gb329) (o := o5 t323 t324 t325 t326 t327 23) (by (with_reducible repeat (first | refine kN ?_ _ | refine kD ?_ | refine kA ?_ _)); exact BK329.out)) : gb329 ≠ gb356))
              have n10_ := mK ((by rw [hg]; exact Nat.ne_of_gt (blk_lt (g := gb329) (o := o5 t323 t324 t325 t326 t327 23) (by (with_reducible repeat (first | refine kN ?_ _ | refine kD ?_ | refine kA ?_ _)); exact BK329.out)) : gb356 ≠ gb329))
              have n11_ := mK ((by rw [hg]; exact Nat.ne_of_lt (blk_lt (g := gb336) (o := o5 t330 t331 t332 t333 t334 31) (by (with_reducible repeat (first | refine kN ?_ _ | refine kD ?_ | refine kA ?_ _)); exact BK336.out)) : gb336 ≠ gb356))
              have n12_ := mK ((by rw [hg]; exact Nat.ne_of_gt (blk_lt (g := gb336) (o := o5 t330 t331 t332 t333 t334 31) (by (with_reducible repeat (first | refine kN ?_ _ | refine kD ?_ | refine kA ?_ _)); exact BK336.out)) : gb356 ≠ gb336))
              clear BK312
              clear BK329
              clear BK336
              clear HB
              have BK312 := n0_
              have BK329 := n1_
              have BK336 := n2_
              have HB := n3_
              have BK356 := n4_
              have GW356 := n5_
              have GE356 := n6_
              have NB312_356 := n7_
              have NB356_312 := n8_
              have NB329_356 := n9_
              have NB356_329 := n10_
              have NB336_356 := n11_
              have NB356_336 := n12_
              clear n0_ n1_ n2_ n3_ n4_ n5_ n6_ n7_ n8_ n9_ n10_ n11_ n12_
              clear hb hbox hg
              refine hK.out _ _ ⟨(kC BK312.out 0).trans rfl, (kC BK312.out 1).trans rfl, (kC BK312.out 2).trans rfl, (kC BK312.out 3).trans rfl, (kC BK312.out 4).trans rfl⟩ (fun hHeld => ?_)
              clear hK K
              refine norm_ (a' := ?_) ?_ ?_
              rotate_left
              ·
               show Act.put _ (some 15) _ = _
               simp only [Act.put, List.setIfInBounds_toArray, List.set_cons_zero, List.set_cons_succ, i64_w, i32_w]
               rfl
              refine one_ (i := 4) (N := some 72) #[true, true, true, true, true, false, false, false, false, true, false, false] rfl rfl (one_of HT_.out (by kernel_rfl)) (by decide) (fun K hK => ?_)
              refine goes_ Try.func24 (by kernel_rfl) rfl #[.agg #[.int .i64 t342, .int .i64 t343, .int .i64 t344, .int .i64 t345, .int .i64 t346]] (by rfl) rfl rfl (by (try simp only [List.map_toArray, List.map_cons, List.map_nil]); first | done | rfl) ?_
              with_reducible refine (pascalineref02_Fields.calls kj23 t342 t343 t344 t345 t346 t347 _ A47.out).mono ?_
              rintro e w72 ⟨v348, rfl, ho0, hb⟩
              refine ⟨_, rfl, ?_⟩
              have n0_ := mK (Kd.R_lower ho0 (bZ (by repeat (first | (with_reducible first | exact HB.out | apply bA | apply bN | apply bD | refine bS ?_ GE312.out | refine bS ?_ GE329.out | refine bS ?_ GE336.out | refine bS ?_ GE356.out) | exact HB.out))))
              have n1_ := mK (kB (g := gb312) (o := o5 a0_0 a0_1 a0_2 a0_3 a0_4 23) (by (with_reducible repeat (first | refine kN ?_ _ | refine kD ?_ | refine kA ?_ _)); exact BK312.out) hb)
              have n2_ := mK (kB (g := gb329) (o := o5 t323 t324 t325 t326 t327 23) (by (with_reducible repeat (first | refine kN ?_ _ | refine kD ?_ | refine kA ?_ _)); exact BK329.out) hb)
              have n3_ := mK (kB (g := gb336) (o := o5 t330 t331 t332 t333 t334 31) (by (with_reducible repeat (first | refine kN ?_ _ | refine kD ?_ | refine kA ?_ _)); exact BK336.out) hb)
              have n4_ := mK (kB (g := gb356) (o := o5 0 0 0 0 0 23) (by (with_reducible repeat (first | refine kN ?_ _ | refine kD ?_ | refine kA ?_ _)); exact BK356.out) hb)
              have n5_ := mK (bP (by repeat (first | (with_reducible first | exact HB.out | apply bA | apply bN | apply bD | refine bS ?_ GE312.out | refine bS ?_ GE329.out | refine bS ?_ GE336.out | refine bS ?_ GE356.out) | exact HB.out)) hb)
              clear BK312
              clear BK329
              clear BK336
              clear BK356
              clear HB
              have HO349 := n0_
              have BK312 := n1_
              have BK329 := n2_
              have BK336 := n3_
              have BK356 := n4_
              have HB := n5_
              clear n0_ n1_ n2_ n3_ n4_ n5_
              (try clear hb)
              (try clear ho0)
              obtain ⟨Ao73, co73, eo73⟩ := Kd.R_slice HO349.out
              (first | subst eo73 | (injection eo73 with f1_ f2_ f3_; have f4_ := f1_.symm; have f5_ := f3_.symm; clear f1_ f2_ f3_; subst f4_; subst f5_))
              refine hK.out _ _ ⟨(kC BK312.out 0).trans rfl, (kC BK312.out 1).trans rfl, (kC BK312.out 2).trans rfl, (kC BK312.out 3).trans rfl, (kC BK312.out 4).trans rfl⟩ (fun hHeld => ?_)
              clear hK K
              refine norm_ (a' := ?_) ?_ ?_
              rotate_left
              ·
               show Act.put _ (some 72) _ = _
               simp only [Act.put, List.setIfInBounds_toArray, List.set_cons_zero, List.set_cons_succ, i64_w, i32_w]
               rfl
              refine one_ (i := 5) (N := some 73) #[true, true, true, true, true, true, false, false, false, true, false, false] rfl rfl (one_of HT_.out (by kernel_rfl)) (by decide) (fun K hK => ?_)
              refine goes_ Try.func22 (by kernel_rfl) rfl #[.int .i64 a0_0, .slice Ao73 t347.length co73] (by rfl) rfl rfl (by (try simp only [List.map_toArray, List.map_cons, List.map_nil]); first | done | rfl) ?_
              with_reducible refine (instr_Fill.calls kj23 a0_0 _ _ t347 t350 t351 t352 t353 t354 false _ ?side1 ?side2 A48.out).mono ?_
              (case side1 => repeat (first | exact (Kd.R_reads' HO349.out).2.2 | (with_reducible refine Kd.C_alloc ?_ _) | (with_reducible refine Kd.C_drewN ?_ _) | (with_reducible refine Kd.C_drew ?_)))
              (case side2 => exact (Kd.R_reads' HO349.out).2.1)
              rintro e w74 ⟨rfl, hb⟩
              refine ⟨_, rfl, ?_⟩
              have n0_ := mK (Kd.R_below (by (with_reducible repeat (first | apply Kd.R_alloc | apply Kd.R_drewN | apply Kd.R_drew)); exact HO349.out) hb)
              have n1_ := mK (kB (g := gb312) (o := o5 a0_0 a0_1 a0_2 a0_3 a0_4 23) (by (with_reducible repeat (first | refine kN ?_ _ | refine kD ?_ | refine kA ?_ _)); exact BK312.out) hb)
              have n2_ := mK (kB (g := gb329) (o := o5 t323 t324 t325 t326 t327 23) (by (with_reducible repeat (first | refine kN ?_ _ | refine kD ?_ | refine kA ?_ _)); exact BK329.out) hb)
              have n3_ := mK (kB (g := gb336) (o := o5 t330 t331 t332 t333 t334 31) (by (with_reducible repeat (first | refine kN ?_ _ | refine kD ?_ | refine kA ?_ _)); exact BK336.out) hb)
              have n4_ := mK (kB (g := gb356) (o := o5 0 0 0 0 0 23) (by (with_reducible repeat (first | refine kN ?_ _ | refine kD ?_ | refine kA ?_ _)); exact BK356.out) hb)
              have n5_ := mK (bP (by repeat (first | (with_reducible first | exact HB.out | apply bA | apply bN | apply bD | refine bS ?_ GE312.out | refine bS ?_ GE329.out | refine bS ?_ GE336.out | refine bS ?_ GE356.out) | exact HB.out)) hb)
              clear HO349
              clear BK312
              clear BK329
              clear BK336
              clear BK356
              clear HB
              have HO349 := n0_
              have BK312 := n1_
              have BK329 := n2_
              have BK336 := n3_
              have BK356 := n4_
              have HB := n5_
              clear n0_ n1_ n2_ n3_ n4_ n5_
              (try clear hb)
              refine hK.out _ _ ⟨(kC BK312.out 0).trans rfl, (kC BK312.out 1).trans rfl, (kC BK312.out 2).trans rfl, (kC BK312.out 3).trans rfl, (kC BK312.out 4).trans rfl⟩ (fun hHeld => ?_)
              clear hK K
              refine norm_ (a' := ?_) ?_ ?_
              rotate_left
              ·
               show Act.put _ (some 73) _ = _
               simp only [Act.put, List.setIfInBounds_toArray, List.set_cons_zero, List.set_cons_succ, i64_w, i32_w]
               rfl
              refine pure_ (i := 6) (N := some 67) (v := ?_) (a' := ?_) #[true, true, true, true, true, true, true, false, false, true, false, false] rfl rfl (any_of HT_.out (by kernel_rfl)) (fun _ _ _ h => h) (Or.inl ⟨by rfl, ?_⟩) ?_ ?_
              rotate_left
              ·
               intro w'
               go_simp
               with_reducible rfl
              rotate_left
              ·
               simp only [Act.put, List.setIfInBounds_toArray, List.set_cons_zero, List.set_cons_succ, i64_w, i32_w]
               rfl
              refine pure_ (i := 7) (N := some 74) (v := ?_) (a' := ?_) #[true, true, true, true, true, true, true, true, false, true, false, false] rfl rfl (any_of HT_.out (by kernel_rfl)) (fun _ _ _ h => h) (Or.inl ⟨by rfl, ?_⟩) ?_ ?_
              rotate_left
              ·
               intro w'
               go_simp
               with_reducible rfl
              rotate_left
              ·
               simp only [Act.put, List.setIfInBounds_toArray, List.set_cons_zero, List.set_cons_succ, i64_w, i32_w]
               rfl
              refine pure_ (i := 8) (N := some 75) (v := ?_) (a' := ?_) #[true, true, true, true, true, true, true, true, true, true, false, false] rfl rfl (any_of HT_.out (by kernel_rfl)) (fun _ _ _ h => h) (Or.inl ⟨by rfl, ?_⟩) ?_ ?_
              rotate_left
              ·
               intro w'
               go_simp
               with_reducible rfl
              rotate_left
              ·
               simp only [Act.put, List.setIfInBounds_toArray, List.set_cons_zero, List.set_cons_succ, i64_w, i32_w]
               rfl
              exact norm_ (by simp only [putAll, Act.put, List.setIfInBounds_toArray, List.set_cons_zero, List.set_cons_succ]) (hCont (.slice Ao73 t347.length co73, gb356) _ ⟨hHeld, (by (with_reducible repeat (first | apply Kd.R_alloc | apply Kd.R_drewN | apply Kd.R_drew)); exact HO349.out), (by (with_reducible repeat (first | refine kN ?_ _ | refine kD ?_ | refine kA ?_ _)); exact BK312.out), (by (with_reducible repeat (first | refine kN ?_ _ | refine kD ?_ | refine kA ?_ _)); exact BK329.out), (by (with_reducible repeat (first | refine kN ?_ _ | refine kD ?_ | refine kA ?_ _)); exact BK336.out), (by (with_reducible repeat (first | refine kN ?_ _ | refine kD ?_ | refine kA ?_ _)); exact BK356.out), GW356.out, GE356.out, NB312_356.out, NB356_312.out, NB329_356.out, NB356_329.out, NB336_356.out, NB356_336.out, (by repeat (first | (with_reducible first | exact HB.out | apply bA | apply bN | apply bD | refine bS ?_ GE312.out | refine bS ?_ GE329.out | refine bS ?_ GE336.out | refine bS ?_ GE356.out) | exact HB.out))⟩)
            ·
             skip
             refine box_step ?hg (N := 15) ?hd (cs := #[.int .i64 0, .int .i64 0, .int .i64 0, .int .i64 0, .int .i64 0]) (t := 23) ?hr ?_; (case hd => rfl); (case hg => rfl); (case hr => first | (go_simp; done) | (go_simp; rfl))
             intro gb356 hg w70 hbox hb
             have n0_ := mK (kB (g := gb312) (o := o5 a0_0 a0_1 a0_2 a0_3 a0_4 23) (by (with_reducible repeat (first | refine kN ?_ _ | refine kD ?_ | refine kA ?_ _)); exact BK312.out) hb)
             have n1_ := mK (kB (g := gb329) (o := o5 t323 t324 t325 t326 t327 23) (by (with_reducible repeat (first | refine kN ?_ _ | refine kD ?_ | refine kA ?_ _)); exact BK329.out) hb)
             have n2_ := mK (kB (g := gb336) (o := o5 t330 t331 t332 t333 t334 31) (by (with_reducible repeat (first | refine kN ?_ _ | refine kD ?_ | refine kA ?_ _)); exact BK336.out) hb)
             have n3_ := mK (bP (by repeat (first | (with_reducible first | exact HB.out | apply bA | apply bN | apply bD | refine bS ?_ GE312.out | refine bS ?_ GE329.out | refine bS ?_ GE336.out) | exact HB.out)) hb)
             have n4_ := mK (hbox)
             have n5_ := mK ((by rw [hg]; exact (bZ (by repeat (first | (with_reducible first | exact HB.out | apply bA | apply bN | apply bD | refine bS ?_ GE312.out | refine bS ?_ GE329.out | refine bS ?_ GE336.out) | exact HB.out))) : w.heap.size ≤ gb356))
             have n6_ := mK ((by rw [hg]; exact (bZ (by repeat (first | (with_reducible first | exact HB.out | apply bA | apply bN | apply bD | refine bS ?_ GE312.out | refine bS ?_ GE329.out | refine bS ?_ GE336.out) | exact HB.out))) : w.heap.size ≤ gb356))
             have n7_ := mK ((by rw [hg]; exact Nat.ne_of_lt (blk_lt (g := gb312) (o := o5 a0_0 a0_1 a0_2 a0_3 a0_4 23) (by (with_reducible repeat (first | refine kN ?_ _ | refine kD ?_ | refine kA ?_ _)); exact BK312.out)) : gb312 ≠ gb356))
             have n8_ := mK ((by rw [hg]; exact Nat.ne_of_gt (blk_lt (g := gb312) (o := o5 a0_0 a0_1 a0_2 a0_3 a0_4 23) (by (with_reducible repeat (first | refine kN ?_ _ | refine kD ?_ | refine kA ?_ _)); exact BK312.out)) : gb356 ≠ gb312))
             have n9_ := mK ((by rw [hg]; exact Nat.ne_of_lt (blk_lt (g := gb329) (o := o5 t323 t324 t325 t326 t327 23) (by (with_reducible repeat (first | refine kN ?_ _ | refine kD ?_ | refine kA ?_ _)); exact BK329.out)) : gb329 ≠ gb356))
             have n10_ := mK ((by rw [hg]; exact Nat.ne_of_gt (blk_lt (g := gb329) (o := o5 t323 t324 t325 t326 t327 23) (by (with_reducible repeat (first | refine kN ?_ _ | refine kD ?_ | refine kA ?_ _)); exact BK329.out)) : gb356 ≠ gb329))
             have n11_ := mK ((by rw [hg]; exact Nat.ne_of_lt (blk_lt (g := gb336) (o := o5 t330 t331 t332 t333 t334 31) (by (with_reducible repeat (first | refine kN ?_ _ | refine kD ?_ | refine kA ?_ _)); exact BK336.out)) : gb336 ≠ gb356))
             have n12_ := mK ((by rw [hg]; exact Nat.ne_of_gt (blk_lt (g := gb336) (o := o5 t330 t331 t332 t333 t334 31) (by (with_reducible repeat (first | refine kN ?_ _ | refine kD ?_ | refine kA ?_ _)); exact BK336.out)) : gb356 ≠ gb336))
             clear BK312
             clear BK329
             clear BK336
             clear HB
             have BK312 := n0_
             have BK329 := n1_
             have BK336 := n2_
             have HB := n3_
             have BK356 := n4_
             have GW356 := n5_
             have GE356 := n6_
             have NB312_356 := n7_
             have NB356_312 := n8_
             have NB329_356 := n9_
             have NB356_329 := n10_
             have NB336_356 := n11_
             have NB356_336 := n12_
             clear n0_ n1_ n2_ n3_ n4_ n5_ n6_ n7_ n8_ n9_ n10_ n11_ n12_
             clear hb hbox hg
             refine hK.out _ _ ⟨(kC BK312.out 0).trans rfl, (kC BK312.out 1).trans rfl, (kC BK312.out 2).trans rfl, (kC BK312.out 3).trans rfl, (kC BK312.out 4).trans rfl⟩ (fun hHeld => ?_)
             clear hK K
             refine norm_ (a' := ?_) ?_ ?_
             rotate_left
             ·
              show Act.put _ (some 15) _ = _
              simp only [Act.put, List.setIfInBounds_toArray, List.set_cons_zero, List.set_cons_succ, i64_w, i32_w]
              rfl
             refine one_ (i := 3) (N := some 71) #[true, true, true, true, false, false, false, false, false, true, false, false] rfl rfl (one_of HT_.out (by kernel_rfl)) (by decide) (fun K hK => ?_)
             refine goes_ Try.func11 (by kernel_rfl) rfl #[.agg #[.int .i64 a0_0, .int .i64 a0_1, .int .i64 a0_2, .int .i64 a0_3, .int .i64 a0_4]] (by rfl) rfl rfl (by (try simp only [List.map_toArray, List.map_cons, List.map_nil]); first | done | rfl) ?_
             with_reducible refine (pascalinelaw02_Ref.calls a0_0 a0_1 a0_2 a0_3 a0_4 t342 t343 t344 t345 t346 _ A46.out).mono ?_
             rintro e w71 ⟨rfl, hb⟩
             refine ⟨_, rfl, ?_⟩
             have n0_ := mK (kB (g := gb312) (o := o5 a0_0 a0_1 a0_2 a0_3 a0_4 23) (by (with_reducible repeat (first | refine kN ?_ _ | refine kD ?_ | refine kA ?_ _)); exact BK312.out) hb)
             have n1_ := mK (kB (g := gb329) (o := o5 t323 t324 t325 t326 t327 23) (by (with_reducible repeat (first | refine kN ?_ _ | refine kD ?_ | refine kA ?_ _)); exact BK329.out) hb)
             have n2_ := mK (kB (g := gb336) (o := o5 t330 t331 t332 t333 t334 31) (by (with_reducible repeat (first | refine kN ?_ _ | refine kD ?_ | refine kA ?_ _)); exact BK336.out) hb)
             have n3_ := mK (kB (g := gb356) (o := o5 0 0 0 0 0 23) (by (with_reducible repeat (first | refine kN ?_ _ | refine kD ?_ | refine kA ?_ _)); exact BK356.out) hb)
             have n4_ := mK (bP (by repeat (first | (with_reducible first | exact HB.out | apply bA | apply bN | apply bD | refine bS ?_ GE312.out | refine bS ?_ GE329.out | refine bS ?_ GE336.out | refine bS ?_ GE356.out) | exact HB.out)) hb)
             clear BK312
             clear BK329
             clear BK336
             clear BK356
             clear HB
             have BK312 := n0_
             have BK329 := n1_
             have BK336 := n2_
             have BK356 := n3_
             have HB := n4_
             clear n0_ n1_ n2_ n3_ n4_
             (try clear hb)
             refine hK.out _ _ ⟨(kC BK312.out 0).trans rfl, (kC BK312.out 1).trans rfl, (kC BK312.out 2).trans rfl, (kC BK312.out 3).trans rfl, (kC BK312.out 4).trans rfl⟩ (fun hHeld => ?_)
             clear hK K
             refine norm_ (a' := ?_) ?_ ?_
             rotate_left
             ·
              show Act.put _ (some 71) _ = _
              simp only [Act.put, List.setIfInBounds_toArray, List.set_cons_zero, List.set_cons_succ, i64_w, i32_w]
              rfl
             refine one_ (i := 4) (N := some 72) #[true, true, true, true, true, false, false, false, false, true, false, false] rfl rfl (one_of HT_.out (by kernel_rfl)) (by decide) (fun K hK => ?_)
             refine goes_ Try.func24 (by kernel_rfl) rfl #[.agg #[.int .i64 t342, .int .i64 t343, .int .i64 t344, .int .i64 t345, .int .i64 t346]] (by rfl) rfl rfl (by (try simp only [List.map_toArray, List.map_cons, List.map_nil]); first | done | rfl) ?_
             with_reducible refine (pascalineref02_Fields.calls kj23 t342 t343 t344 t345 t346 t347 _ A47.out).mono ?_
             rintro e w72 ⟨v348, rfl, ho0, hb⟩
             refine ⟨_, rfl, ?_⟩
             have n0_ := mK (Kd.R_lower ho0 (bZ (by repeat (first | (with_reducible first | exact HB.out | apply bA | apply bN | apply bD | refine bS ?_ GE312.out | refine bS ?_ GE329.out | refine bS ?_ GE336.out | refine bS ?_ GE356.out) | exact HB.out))))
             have n1_ := mK (kB (g := gb312) (o := o5 a0_0 a0_1 a0_2 a0_3 a0_4 23) (by (with_reducible repeat (first | refine kN ?_ _ | refine kD ?_ | refine kA ?_ _)); exact BK312.out) hb)
             have n2_ := mK (kB (g := gb329) (o := o5 t323 t324 t325 t326 t327 23) (by (with_reducible repeat (first | refine kN ?_ _ | refine kD ?_ | refine kA ?_ _)); exact BK329.out) hb)
             have n3_ := mK (kB (g := gb336) (o := o5 t330 t331 t332 t333 t334 31) (by (with_reducible repeat (first | refine kN ?_ _ | refine kD ?_ | refine kA ?_ _)); exact BK336.out) hb)
             have n4_ := mK (kB (g := gb356) (o := o5 0 0 0 0 0 23) (by (with_reducible repeat (first | refine kN ?_ _ | refine kD ?_ | refine kA ?_ _)); exact BK356.out) hb)
             have n5_ := mK (bP (by repeat (first | (with_reducible first | exact HB.out | apply bA | apply bN | apply bD | refine bS ?_ GE312.out | refine bS ?_ GE329.out | refine bS ?_ GE336.out | refine bS ?_ GE356.out) | exact HB.out)) hb)
             clear BK312
             clear BK329
             clear BK336
             clear BK356
             clear HB
             have HO349 := n0_
             have BK312 := n1_
             have BK329 := n2_
             have BK336 := n3_
             have BK356 := n4_
             have HB := n5_
             clear n0_ n1_ n2_ n3_ n4_ n5_
             (try clear hb)
             (try clear ho0)
             obtain ⟨Ao73, co73, eo73⟩ := Kd.R_slice HO349.out
             (first | subst eo73 | (injection eo73 with f1_ f2_ f3_; have f4_ := f1_.symm; have f5_ := f3_.symm; clear f1_ f2_ f3_; subst f4_; subst f5_))
             refine hK.out _ _ ⟨(kC BK312.out 0).trans rfl, (kC BK312.out 1).trans rfl, (kC BK312.out 2).trans rfl, (kC BK312.out 3).trans rfl, (kC BK312.out 4).trans rfl⟩ (fun hHeld => ?_)
             clear hK K
             refine norm_ (a' := ?_) ?_ ?_
             rotate_left
             ·
              show Act.put _ (some 72) _ = _
              simp only [Act.put, List.setIfInBounds_toArray, List.set_cons_zero, List.set_cons_succ, i64_w, i32_w]
              rfl
             refine one_ (i := 5) (N := some 73) #[true, true, true, true, true, true, false, false, false, true, false, false] rfl rfl (one_of HT_.out (by kernel_rfl)) (by decide) (fun K hK => ?_)
             refine goes_ Try.func22 (by kernel_rfl) rfl #[.int .i64 a0_0, .slice Ao73 t347.length co73] (by rfl) rfl rfl (by (try simp only [List.map_toArray, List.map_cons, List.map_nil]); first | done | rfl) ?_
             with_reducible refine (instr_Fill.calls kj23 a0_0 _ _ t347 t350 t351 t352 t353 t354 false _ ?side1 ?side2 A48.out).mono ?_
             (case side1 => repeat (first | exact (Kd.R_reads' HO349.out).2.2 | (with_reducible refine Kd.C_alloc ?_ _) | (with_reducible refine Kd.C_drewN ?_ _) | (with_reducible refine Kd.C_drew ?_)))
             (case side2 => exact (Kd.R_reads' HO349.out).2.1)
             rintro e w74 ⟨rfl, hb⟩
             refine ⟨_, rfl, ?_⟩
             have n0_ := mK (Kd.R_below (by (with_reducible repeat (first | apply Kd.R_alloc | apply Kd.R_drewN | apply Kd.R_drew)); exact HO349.out) hb)
             have n1_ := mK (kB (g := gb312) (o := o5 a0_0 a0_1 a0_2 a0_3 a0_4 23) (by (with_reducible repeat (first | refine kN ?_ _ | refine kD ?_ | refine kA ?_ _)); exact BK312.out) hb)
             have n2_ := mK (kB (g := gb329) (o := o5 t323 t324 t325 t326 t327 23) (by (with_reducible repeat (first | refine kN ?_ _ | refine kD ?_ | refine kA ?_ _)); exact BK329.out) hb)
             have n3_ := mK (kB (g := gb336) (o := o5 t330 t331 t332 t333 t334 31) (by (with_reducible repeat (first | refine kN ?_ _ | refine kD ?_ | refine kA ?_ _)); exact BK336.out) hb)
             have n4_ := mK (kB (g := gb356) (o := o5 0 0 0 0 0 23) (by (with_reducible repeat (first | refine kN ?_ _ | refine kD ?_ | refine kA ?_ _)); exact BK356.out) hb)
             have n5_ := mK (bP (by repeat (first | (with_reducible first | exact HB.out | apply bA | apply bN | apply bD | refine bS ?_ GE312.out | refine bS ?_ GE329.out | refine bS ?_ GE336.out | refine bS ?_ GE356.out) | exact HB.out)) hb)
             clear HO349
             clear BK312
             clear BK329
             clear BK336
             clear BK356
             clear HB
             have HO349 := n0_
             have BK312 := n1_
             have BK329 := n2_
             have BK336 := n3_
             have BK356 := n4_
             have HB := n5_
             clear n0_ n1_ n2_ n3_ n4_ n5_
             (try clear hb)
             refine hK.out _ _ ⟨(kC BK312.out 0).trans rfl, (kC BK312.out 1).trans rfl, (kC BK312.out 2).trans rfl, (kC BK312.out 3).trans rfl, (kC BK312.out 4).trans rfl⟩ (fun hHeld => ?_)
             clear hK K
             refine norm_ (a' := ?_) ?_ ?_
             rotate_left
             ·
              show Act.put _ (some 73) _ = _
              simp only [Act.put, List.setIfInBounds_toArray, List.set_cons_zero, List.set_cons_succ, i64_w, i32_w]
              rfl
             refine pure_ (i := 6) (N := some 67) (v := ?_) (a' := ?_) #[true, true, true, true, true, true, true, false, false, true, false, false] rfl rfl (any_of HT_.out (by kernel_rfl)) (fun _ _ _ h => h) (Or.inl ⟨by rfl, ?_⟩) ?_ ?_
             rotate_left
             ·
              intro w'
              go_simp
              with_reducible rfl
             rotate_left
             ·
              simp only [Act.put, List.setIfInBounds_toArray, List.set_cons_zero, List.set_cons_succ, i64_w, i32_w]
              rfl
             refine pure_ (i := 7) (N := some 74) (v := ?_) (a' := ?_) #[true, true, true, true, true, true, true, true, false, true, false, false] rfl rfl (any_of HT_.out (by kernel_rfl)) (fun _ _ _ h => h) (Or.inl ⟨by rfl, ?_⟩) ?_ ?_
             rotate_left
             ·
              intro w'
              go_simp
              with_reducible rfl
             rotate_left
             ·
              simp only [Act.put, List.setIfInBounds_toArray, List.set_cons_zero, List.set_cons_succ, i64_w, i32_w]
              rfl
             refine pure_ (i := 8) (N := some 75) (v := ?_) (a' := ?_) #[true, true, true, true, true, true, true, true, true, true, false, false] rfl rfl (any_of HT_.out (by kernel_rfl)) (fun _ _ _ h => h) (Or.inl ⟨by rfl, ?_⟩) ?_ ?_
             rotate_left
             ·
              intro w'
              go_simp
              with_reducible rfl
             rotate_left
             ·
              simp only [Act.put, List.setIfInBounds_toArray, List.set_cons_zero, List.set_cons_succ, i64_w, i32_w]
              rfl
             exact norm_ (by simp only [putAll, Act.put, List.setIfInBounds_toArray, List.set_cons_zero, List.set_cons_succ]) (hCont (.slice Ao73 t347.length co73, gb356) _ ⟨hHeld, (by (with_reducible repeat (first | apply Kd.R_alloc | apply Kd.R_drewN | apply Kd.R_drew)); exact HO349.out), (by (with_reducible repeat (first | refine kN ?_ _ | refine kD ?_ | refine kA ?_ _)); exact BK312.out), (by (with_reducible repeat (first | refine kN ?_ _ | refine kD ?_ | refine kA ?_ _)); exact BK329.out), (by (with_reducible repeat (first | refine kN ?_ _ | refine kD ?_ | refine kA ?_ _)); exact BK336.out), (by (with_reducible repeat (first | refine kN ?_ _ | refine kD ?_ | refine kA ?_ _)); exact BK356.out), GW356.out, GE356.out, NB312_356.out, NB356_312.out, NB329_356.out, NB356_329.out, NB336_356.out, NB356_336.out, (by repeat (first | (with_reducible first | exact HB.out | apply bA | apply bN | apply bD | refine bS ?_ GE312.out | refine bS ?_ GE329.out | refine bS ?_ GE336.out | refine bS ?_ GE356.out) | exact HB.out))⟩)
           rintro ⟨v348, gb356⟩ w75 ⟨hS_, h0_, h1_, h2_, h3_, h4_, h5_, h6_, h7_, h8_, h9_, h10_, h11_, h12_, h13_⟩
           have n0_ : Aside0 (Kd.R Kd.string 9 w75 w.heap.size (fun _ => True) v348 t347) := ⟨h0_⟩
           have n1_ : Aside0 (w75.heap[gb312]? = some (o5 a0_0 a0_1 a0_2 a0_3 a0_4 23)) := ⟨h1_⟩
           have n2_ : Aside0 (w75.heap[gb329]? = some (o5 t323 t324 t325 t326 t327 23)) := ⟨h2_⟩
           have n3_ : Aside0 (w75.heap[gb336]? = some (o5 t330 t331 t332 t333 t334 31)) := ⟨h3_⟩
           have n4_ : Aside0 (w75.heap[gb356]? = some (o5 0 0 0 0 0 23)) := ⟨h4_⟩
           have n5_ : Aside0 (w.heap.size ≤ gb356) := ⟨h5_⟩
           have n6_ : Aside0 (w.heap.size ≤ gb356) := ⟨h6_⟩
           have n7_ : Aside0 (gb312 ≠ gb356) := ⟨h7_⟩
           have n8_ : Aside0 (gb356 ≠ gb312) := ⟨h8_⟩
           have n9_ : Aside0 (gb329 ≠ gb356) := ⟨h9_⟩
           have n10_ : Aside0 (gb356 ≠ gb329) := ⟨h10_⟩
           have n11_ : Aside0 (gb336 ≠ gb356) := ⟨h11_⟩
           have n12_ : Aside0 (gb356 ≠ gb336) := ⟨h12_⟩
           have n13_ : Aside0 (Below w.heap.size w w75) := ⟨h13_⟩
           clear BK312
           clear BK329
           clear BK336
           clear HB
           clear h0_ h1_ h2_ h3_ h4_ h5_ h6_ h7_ h8_ h9_ h10_ h11_ h12_ h13_
           have HO349 := n0_
           have BK312 := n1_
           have BK329 := n2_
           have BK336 := n3_
           have BK356 := n4_
           have GW356 := n5_
           have GE356 := n6_
           have NB312_356 := n7_
           have NB356_312 := n8_
           have NB329_356 := n9_
           have NB356_329 := n10_
           have NB336_356 := n11_
           have NB356_336 := n12_
           have HB := n13_
           clear n0_ n1_ n2_ n3_ n4_ n5_ n6_ n7_ n8_ n9_ n10_ n11_ n12_ n13_
           have hHeld : w75.cell? ⟨gb312, 0, none⟩ = some (.int .i64 a0_0) ∧ w75.cell? ⟨gb312, 1, none⟩ = some (.int .i64 a0_1) ∧ w75.cell? ⟨gb312, 2, none⟩ = some (.int .i64 a0_2) ∧ w75.cell? ⟨gb312, 3, none⟩ = some (.int .i64 a0_3) ∧ w75.cell? ⟨gb312, 4, none⟩ = some (.int .i64 a0_4) := hS_
           refine norm_ (a' := ?_) ?_ ?_
           rotate_left
           ·
            simp only [putAll, Act.put, List.setIfInBounds_toArray, List.set_cons_zero, List.set_cons_succ]
            rfl
           refine one_ (i := 10) (N := none) #[true, true, true, true, true, true, true, true, true, true, true, false] rfl rfl (one_of HT_.out (by kernel_rfl)) (by decide) (fun K hK => ?_)
           have hs76 : w75.cell? ⟨gb356, 0, none⟩ = some (.int .i64 0) := (kC BK356.out 0).trans rfl
           have hfs76 := kF BK356.out 0
           have hns76_0 := NB312_356.out
           have hns76_1 := NB329_356.out
           have hns76_2 := NB336_356.out
           have hms76_0 := NB356_312.out
           have hms76_1 := NB356_329.out
           have hms76_2 := NB356_336.out
           have hs77 : w75.cell? ⟨gb356, 1, none⟩ = some (.int .i64 0) := (kC BK356.out 1).trans rfl
           have hfs77 := kF BK356.out 1
           have hns77_0 := NB312_356.out
           have hns77_1 := NB329_356.out
           have hns77_2 := NB336_356.out
           have hms77_0 := NB356_312.out
           have hms77_1 := NB356_329.out
           have hms77_2 := NB356_336.out
           have hs78 : w75.cell? ⟨gb356, 2, none⟩ = some (.int .i64 0) := (kC BK356.out 2).trans rfl
           have hfs78 := kF BK356.out 2
           have hns78_0 := NB312_356.out
           have hns78_1 := NB329_356.out
           have hns78_2 := NB336_356.out
           have hms78_0 := NB356_312.out
           have hms78_1 := NB356_329.out
           have hms78_2 := NB356_336.out
           have hs79 : w75.cell? ⟨gb356, 3, none⟩ = some (.int .i64 0) := (kC BK356.out 3).trans rfl
           have hfs79 := kF BK356.out 3
           have hns79_0 := NB312_356.out
           have hns79_1 := NB329_356.out
           have hns79_2 := NB336_356.out
           have hms79_0 := NB356_312.out
           have hms79_1 := NB356_329.out
           have hms79_2 := NB356_336.out
           have hs80 : w75.cell? ⟨gb356, 4, none⟩ = some (.int .i64 0) := (kC BK356.out 4).trans rfl
           have hfs80 := kF BK356.out 4
           have hns80_0 := NB312_356.out
           have hns80_1 := NB329_356.out
           have hns80_2 := NB336_356.out
           have hms80_0 := NB356_312.out
           have hms80_1 := NB356_329.out
           have hms80_2 := NB356_336.out
           refine skip_ (w1 := ?_) (by rfl) rfl ?_ ?_
           rotate_left
           ·
            go_simp
            rfl
           refine hK.out _ _ ⟨((cell_far (p := ⟨gb356, _, none⟩) NB312_356.out _).trans (((cell_far (p := ⟨gb356, _, none⟩) NB312_356.out _).trans (((cell_far (p := ⟨gb356, _, none⟩) NB312_356.out _).trans (((cell_far (p := ⟨gb356, _, none⟩) NB312_356.out _).trans (((cell_far (p := ⟨gb356, _, none⟩) NB312_356.out _).trans (hHeld.1)))))))))), ((cell_far (p := ⟨gb356, _, none⟩) NB312_356.out _).trans (((cell_far (p := ⟨gb356, _, none⟩) NB312_356.out _).trans (((cell_far (p := ⟨gb356, _, none⟩) NB312_356.out _).trans (((cell_far (p := ⟨gb356, _, none⟩) NB312_356.out _).trans (((cell_far (p := ⟨gb356, _, none⟩) NB312_356.out _).trans (hHeld.2.1)))))))))), ((cell_far (p := ⟨gb356, _, none⟩) NB312_356.out _).trans (((cell_far (p := ⟨gb356, _, none⟩) NB312_356.out _).trans (((cell_far (p := ⟨gb356, _, none⟩) NB312_356.out _).trans (((cell_far (p := ⟨gb356, _, none⟩) NB312_356.out _).trans (((cell_far (p := ⟨gb356, _, none⟩) NB312_356.out _).trans (hHeld.2.2.1)))))))))), ((cell_far (p := ⟨gb356, _, none⟩) NB312_356.out _).trans (((cell_far (p := ⟨gb356, _, none⟩) NB312_356.out _).trans (((cell_far (p := ⟨gb356, _, none⟩) NB312_356.out _).trans (((cell_far (p := ⟨gb356, _, none⟩) NB312_356.out _).trans (((cell_far (p := ⟨gb356, _, none⟩) NB312_356.out _).trans (hHeld.2.2.2.1)))))))))), ((cell_far (p := ⟨gb356, _, none⟩) NB312_356.out _).trans (((cell_far (p := ⟨gb356, _, none⟩) NB312_356.out _).trans (((cell_far (p := ⟨gb356, _, none⟩) NB312_356.out _).trans (((cell_far (p := ⟨gb356, _, none⟩) NB312_356.out _).trans (((cell_far (p := ⟨gb356, _, none⟩) NB312_356.out _).trans (hHeld.2.2.2.2))))))))))⟩ (fun hHeld => ?_)
           clear hK K
           refine pure_ (i := 11) (N := some 16) (v := ?_) (a' := ?_) #[true, true, true, true, true, true, true, true, true, true, true, true] rfl rfl (any_of HT_.out (by kernel_rfl)) (fun _ _ _ h => h) (Or.inl ⟨by rfl, ?_⟩) ?_ ?_
           rotate_left
           ·
            intro w'
            go_simp
            with_reducible rfl
           rotate_left
           ·
            simp only [Act.put, List.setIfInBounds_toArray, List.set_cons_zero, List.set_cons_succ, i64_w, i32_w]
            rfl
           refine done_ (done_of HT_.out (by kernel_rfl)) ?_
           try go_wp2
           go_ret
           exact ⟨by first | rfl | (simp [errW_none, errW_some] <;> rfl) | (simp [*, errW_none, errW_some] <;> rfl), by repeat (first | (with_reducible first | exact HB.out | apply bA | apply bN | apply bD | refine bS ?_ GE312.out | refine bS ?_ GE329.out | refine bS ?_ GE336.out | refine bS ?_ GE356.out) | exact HB.out)⟩
         ·
          rw [if_neg c45] at H
          have c45b0 : (t315 == 0) = false := bQ c45
          have c45b1 : (t315 != 0) = true := bne_iff_ne.mpr c45
          obtain rfl := Option.some.inj H
          go_wp2
          go_ret
          exact ⟨by first | rfl | (simp [errW_none, errW_some] <;> rfl) | (simp [*, errW_none, errW_some] <;> rfl), by repeat (first | (with_reducible first | exact HB.out | apply bA | apply bN | apply bD | refine bS ?_ GE312.out | refine bS ?_ GE329.out | refine bS ?_ GE336.out) | exact HB.out)⟩
 ·
  replace c5 := Bool.eq_false_iff.mpr c5
  subst c5
  have H1 : (some false) = some r := by rw [if_neg (show ¬ (false = true) by decide)] at H; exact H
  clear H
  have H := H1
  clear H1
  obtain rfl := Option.some.inj H
  go_enter Try.func7, Try.ntmps7
  go_wp2_with (first | ((with_reducible refine gate_dst (N := 3) rfl ?_); refine box_event ?hg (N := 3) ?hd (cs := #[.int .i64 a0_0, .int .i64 a0_1, .int .i64 a0_2, .int .i64 a0_3, .int .i64 a0_4]) (t := 23) ?hr ?_; (case hd => rfl); (case hg => rfl); (case hr => first | (go_simp; done) | (go_simp; rfl)); intro gb312 hg w81 hbox hb; have n0_ := mK (bP (by repeat (first | (with_reducible first | exact HB.out | apply bA | apply bN | apply bD) | exact HB.out)) hb); have n1_ := mK (hbox); have n2_ := mK ((by rw [hg]; exact (bZ (by repeat (first | (with_reducible first | exact HB.out | apply bA | apply bN | apply bD) | exact HB.out))) : w.heap.size ≤ gb312)); have n3_ := mK ((by rw [hg]; exact (bZ (by repeat (first | (with_reducible first | exact HB.out | apply bA | apply bN | apply bD) | exact HB.out))) : w.heap.size ≤ gb312)); clear HB; have HB := n0_; have BK312 := n1_; have GW312 := n2_; have GE312 := n3_; clear n0_ n1_ n2_ n3_; clear hb hbox hg) | ((with_reducible refine gate_callee (f := 8) rfl ?_); refine goesL_ (some 17) rfl rfl Try.func8 (by kernel_rfl) rfl #[] rfl (by (try simp only [List.map_toArray, List.map_cons, List.map_nil]); first | done | rfl) ?_; (with_reducible refine (pascalinelaw02_awake.calls k  false _ A4.out).mono ?_); rintro e w82 ⟨rfl, hb⟩; refine ⟨_, rfl, ?_⟩; have n0_ := mK (kB (g := gb312) (o := o5 a0_0 a0_1 a0_2 a0_3 a0_4 23) (by (with_reducible repeat (first | refine kN ?_ _ | refine kD ?_ | refine kA ?_ _)); exact BK312.out) hb); have n1_ := mK (bP (by repeat (first | (with_reducible first | exact HB.out | apply bA | apply bN | apply bD | refine bS ?_ GE312.out) | exact HB.out)) hb); clear BK312; clear HB; have BK312 := n0_; have HB := n1_; clear n0_ n1_; (try clear hb)))
  go_ret
  exact ⟨by first | rfl | (simp [errW_none, errW_some] <;> rfl) | (simp [*, errW_none, errW_some] <;> rfl), by repeat (first | (with_reducible first | exact HB.out | apply bA | apply bN | apply bD | refine bS ?_ GE312.out) | exact HB.out)⟩

end Go.Proofs.Ytmajngcgejkghaa.P

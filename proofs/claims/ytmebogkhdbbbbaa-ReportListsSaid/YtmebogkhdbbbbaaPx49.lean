/- Printed parts. -/
import Derived.Test.YtmebogkhdbbbbaaPx0
import Derived.Test.YtmebogkhdbbbbaaCCf
import Derived.Test.YtmebogkhdbbbbaaPx41
import Derived.Test.YtmebogkhdbbbbaaPx1
namespace Go.Proofs.Ytmebogkhdbbbbaa.P
open Go.RowKit Go.Proofs.YtmebogkhdbbbbaaW.PrintWords Go.Proofs.YtmebogkhdbbbbaaW.PrintLast Go.Proofs.YtmebogkhdbbbbaaW.PrintMore
attribute [local go_sem] max2_int min2_int max_two min_two max_three min_three max_four min_four   -- for this text's walks alone
set_option linter.unusedVariables false
set_option linter.unusedSimpArgs false

/-! ### pascalineref02_Decode: function 42 -/
mutual
def pascalineref02_Decode.j0 : Nat → Int → Int → Bool → Bool → Int → Int → Int → Int → Int → Option (Int × Int × Int × Int × Int × Int)
 | 0, _, _, _, _, _, _, _, _, _ => none
 | k + 1, x0, x5, x7, x8, x272000, x272001, x272002, x272003, x272004 => if x7 = true then (pascalineref02_Decode.j1 k x0 x5 x8 x272000 x272001 ((Int.tdiv x0 65536) % 16) x272003 x272004) else (pascalineref02_Decode.j1 k x0 x5 x8 x272000 x272001 x272002 x272003 x272004)
def pascalineref02_Decode.j1 : Nat → Int → Int → Bool → Int → Int → Int → Int → Int → Option (Int × Int × Int × Int × Int × Int)
 | 0, _, _, _, _, _, _, _, _ => none
 | k + 1, x0, x5, x8, x272000, x272001, x272002, x272003, x272004 => if x8 = true then (pascalineref02_Decode.j2 k x0 x5 x272000 x272001 x272002 (wrap64 (Int.tmod x0 16)) x272004) else (pascalineref02_Decode.j2 k x0 x5 x272000 x272001 x272002 x272003 x272004)
def pascalineref02_Decode.j2 : Nat → Int → Int → Int → Int → Int → Int → Int → Option (Int × Int × Int × Int × Int × Int)
 | 0, _, _, _, _, _, _, _ => none
 | k + 1, x0, x5, x272000, x272001, x272002, x272003, x272004 => if x5 = 1 then (pascalineref02_Decode.j3 k x0 x5 (x5 == 1) x272000 x272001 x272002 x272003 x272004) else (pascalineref02_Decode.j3 k x0 x5 (x5 == 3) x272000 x272001 x272002 x272003 x272004)
def pascalineref02_Decode.j3 : Nat → Int → Int → Bool → Int → Int → Int → Int → Int → Option (Int × Int × Int × Int × Int × Int)
 | 0, _, _, _, _, _, _, _, _ => none
 | k + 1, x0, x41, x42, x272000, x272001, x272002, x272003, x272004 => if x42 = true then ((pascalineref01_Sext.f k x0 16).bind fun t276 => ((pascalineref02_Encode.f k x272000 x272001 x272002 x272003 (wrap64 (t276))).bind fun bt277 => (if bt277.2 = 0 then (if bt277.1 = x0 then (some (x272000, x272001, x272002, x272003, wrap64 (t276), 0)) else (some (0, 0, 0, 0, 0, 21))) else (some (0, 0, 0, 0, 0, 21))))) else (if x41 = 2 then (pascalineref02_Decode.j4 k x0 x41 (x41 == 2) x272000 x272001 x272002 x272003 x272004) else (if x41 = 4 then (pascalineref02_Decode.j4 k x0 x41 (x41 == 4) x272000 x272001 x272002 x272003 x272004) else (pascalineref02_Decode.j4 k x0 x41 (x41 == 8) x272000 x272001 x272002 x272003 x272004)))
def pascalineref02_Decode.j4 : Nat → Int → Int → Bool → Int → Int → Int → Int → Int → Option (Int × Int × Int × Int × Int × Int)
 | 0, _, _, _, _, _, _, _, _ => none
 | k + 1, x0, x41, x49, x272000, x272001, x272002, x272003, x272004 => if x49 = true then ((pascalineref02_Encode.f k x272000 x272001 x272002 x272003 (wrap64 (Int.tmod x0 65536))).bind fun bt279 => (if bt279.2 = 0 then (if bt279.1 = x0 then (some (x272000, x272001, x272002, x272003, wrap64 (Int.tmod x0 65536), 0)) else (some (0, 0, 0, 0, 0, 21))) else (some (0, 0, 0, 0, 0, 21)))) else (if x41 = 7 then ((pascalineref01_Sext.f k x0 24).bind fun t281 => ((pascalineref02_Encode.f k x272000 x272001 x272002 x272003 (wrap64 (t281))).bind fun bt282 => (if bt282.2 = 0 then (if bt282.1 = x0 then (some (x272000, x272001, x272002, x272003, wrap64 (t281), 0)) else (some (0, 0, 0, 0, 0, 21))) else (some (0, 0, 0, 0, 0, 21))))) else ((pascalineref02_Encode.f k x272000 x272001 x272002 x272003 x272004).bind fun bt284 => (if bt284.2 = 0 then (if bt284.1 = x0 then (some (x272000, x272001, x272002, x272003, x272004, 0)) else (some (0, 0, 0, 0, 0, 21))) else (some (0, 0, 0, 0, 0, 21)))))
end
def pascalineref02_Decode.f (k : Nat) (a0 : Int) : Option (Int × Int × Int × Int × Int × Int) := (pascalineref02_Shape.f k ((Int.tdiv a0 16777216) % 4294967296)).bind fun t272 => ((pascalineref02_has.f t272).bind fun bt273 => (if bt273.1 = true then (pascalineref02_Decode.j0 k a0 t272 bt273.2.1 bt273.2.2 ((Int.tdiv a0 16777216) % 4294967296) ((Int.tdiv a0 1048576) % 16) 0 0 0) else (pascalineref02_Decode.j0 k a0 t272 bt273.2.1 bt273.2.2 ((Int.tdiv a0 16777216) % 4294967296) 0 0 0 0)))
theorem pascalineref02_Decode.mono_l : ∀ k, (∀ y0 y1 y2 y3 y4 y5 y6 y7 y8, LeO (pascalineref02_Decode.j0 k y0 y1 y2 y3 y4 y5 y6 y7 y8) (pascalineref02_Decode.j0 (k + 1) y0 y1 y2 y3 y4 y5 y6 y7 y8)) ∧ (∀ y0 y1 y2 y3 y4 y5 y6 y7, LeO (pascalineref02_Decode.j1 k y0 y1 y2 y3 y4 y5 y6 y7) (pascalineref02_Decode.j1 (k + 1) y0 y1 y2 y3 y4 y5 y6 y7)) ∧ (∀ y0 y1 y2 y3 y4 y5 y6, LeO (pascalineref02_Decode.j2 k y0 y1 y2 y3 y4 y5 y6) (pascalineref02_Decode.j2 (k + 1) y0 y1 y2 y3 y4 y5 y6)) ∧ (∀ y0 y1 y2 y3 y4 y5 y6 y7, LeO (pascalineref02_Decode.j3 k y0 y1 y2 y3 y4 y5 y6 y7) (pascalineref02_Decode.j3 (k + 1) y0 y1 y2 y3 y4 y5 y6 y7)) ∧ (∀ y0 y1 y2 y3 y4 y5 y6 y7, LeO (pascalineref02_Decode.j4 k y0 y1 y2 y3 y4 y5 y6 y7) (pascalineref02_Decode.j4 (k + 1) y0 y1 y2 y3 y4 y5 y6 y7))
 | 0 => ⟨fun _ _ _ _ _ _ _ _ _ r h => by simp [pascalineref02_Decode.j0] at h, fun _ _ _ _ _ _ _ _ r h => by simp [pascalineref02_Decode.j1] at h, fun _ _ _ _ _ _ _ r h => by simp [pascalineref02_Decode.j2] at h, fun _ _ _ _ _ _ _ _ r h => by simp [pascalineref02_Decode.j3] at h, fun _ _ _ _ _ _ _ _ r h => by simp [pascalineref02_Decode.j4] at h⟩
 | k + 1 => by
  obtain ⟨ih0, ih1, ih2, ih3, ih4⟩ := pascalineref02_Decode.mono_l k
  refine ⟨?_, ?_, ?_, ?_, ?_⟩
  ·
   intro y0 y1 y2 y3 y4 y5 y6 y7 y8
   unfold pascalineref02_Decode.j0
   repeat' first
   | (with_reducible exact ih0 _ _ _ _ _ _ _ _ _)
   | (with_reducible exact ih1 _ _ _ _ _ _ _ _)
   | (with_reducible exact ih2 _ _ _ _ _ _ _)
   | (with_reducible exact ih3 _ _ _ _ _ _ _ _)
   | (with_reducible exact ih4 _ _ _ _ _ _ _ _)
   | (with_reducible exact pascalineref01_Sext.mono _ _ _)
   | (with_reducible exact pascalineref02_Encode.mono _ _ _ _ _ _)
   | (with_reducible exact pascalineref02_Shape.mono _ _)
   | (with_reducible exact LeO.refl _)
   | (with_reducible exact LeO.none _)
   | (with_reducible refine LeO.ite ?_ ?_)
   | (with_reducible refine LeO.bind ?_ (fun _ => ?_))
   | exact LeO.none _
   | refine LeO.ite ?_ ?_
   | refine LeO.bind ?_ (fun _ => ?_)
  ·
   intro y0 y1 y2 y3 y4 y5 y6 y7
   unfold pascalineref02_Decode.j1
   repeat' first
   | (with_reducible exact ih0 _ _ _ _ _ _ _ _ _)
   | (with_reducible exact ih1 _ _ _ _ _ _ _ _)
   | (with_reducible exact ih2 _ _ _ _ _ _ _)
   | (with_reducible exact ih3 _ _ _ _ _ _ _ _)
   | (with_reducible exact ih4 _ _ _ _ _ _ _ _)
   | (with_reducible exact pascalineref01_Sext.mono _ _ _)
   | (with_reducible exact pascalineref02_Encode.mono _ _ _ _ _ _)
   | (with_reducible exact pascalineref02_Shape.mono _ _)
   | (with_reducible exact LeO.refl _)
   | (with_reducible exact LeO.none _)
   | (with_reducible refine LeO.ite ?_ ?_)
   | (with_reducible refine LeO.bind ?_ (fun _ => ?_))
   | exact LeO.none _
   | refine LeO.ite ?_ ?_
   | refine LeO.bind ?_ (fun _ => ?_)
  ·
   intro y0 y1 y2 y3 y4 y5 y6
   unfold pascalineref02_Decode.j2
   repeat' first
   | (with_reducible exact ih0 _ _ _ _ _ _ _ _ _)
   | (with_reducible exact ih1 _ _ _ _ _ _ _ _)
   | (with_reducible exact ih2 _ _ _ _ _ _ _)
   | (with_reducible exact ih3 _ _ _ _ _ _ _ _)
   | (with_reducible exact ih4 _ _ _ _ _ _ _ _)
   | (with_reducible exact pascalineref01_Sext.mono _ _ _)
   | (with_reducible exact pascalineref02_Encode.mono _ _ _ _ _ _)
   | (with_reducible exact pascalineref02_Shape.mono _ _)
   | (with_reducible exact LeO.refl _)
   | (with_reducible exact LeO.none _)
   | (with_reducible refine LeO.ite ?_ ?_)
   | (with_reducible refine LeO.bind ?_ (fun _ => ?_))
   | exact LeO.none _
   | refine LeO.ite ?_ ?_
   | refine LeO.bind ?_ (fun _ => ?_)
  ·
   intro y0 y1 y2 y3 y4 y5 y6 y7
   unfold pascalineref02_Decode.j3
   repeat' first
   | (with_reducible exact ih0 _ _ _ _ _ _ _ _ _)
   | (with_reducible exact ih1 _ _ _ _ _ _ _ _)
   | (with_reducible exact ih2 _ _ _ _ _ _ _)
   | (with_reducible exact ih3 _ _ _ _ _ _ _ _)
   | (with_reducible exact ih4 _ _ _ _ _ _ _ _)
   | (with_reducible exact pascalineref01_Sext.mono _ _ _)
   | (with_reducible exact pascalineref02_Encode.mono _ _ _ _ _ _)
   | (with_reducible exact pascalineref02_Shape.mono _ _)
   | (with_reducible exact LeO.refl _)
   | (with_reducible exact LeO.none _)
   | (with_reducible refine LeO.ite ?_ ?_)
   | (with_reducible refine LeO.bind ?_ (fun _ => ?_))
   | exact LeO.none _
   | refine LeO.ite ?_ ?_
   | refine LeO.bind ?_ (fun _ => ?_)
  ·
   intro y0 y1 y2 y3 y4 y5 y6 y7
   unfold pascalineref02_Decode.j4
   repeat' first
   | (with_reducible exact ih0 _ _ _ _ _ _ _ _ _)
   | (with_reducible exact ih1 _ _ _ _ _ _ _ _)
   | (with_reducible exact ih2 _ _ _ _ _ _ _)
   | (with_reducible exact ih3 _ _ _ _ _ _ _ _)
   | (with_reducible exact ih4 _ _ _ _ _ _ _ _)
   | (with_reducible exact pascalineref01_Sext.mono _ _ _)
   | (with_reducible exact pascalineref02_Encode.mono _ _ _ _ _ _)
   | (with_reducible exact pascalineref02_Shape.mono _ _)
   | (with_reducible exact LeO.refl _)
   | (with_reducible exact LeO.none _)
   | (with_reducible refine LeO.ite ?_ ?_)
   | (with_reducible refine LeO.bind ?_ (fun _ => ?_))
   | exact LeO.none _
   | refine LeO.ite ?_ ?_
   | refine LeO.bind ?_ (fun _ => ?_)
theorem pascalineref02_Decode.mono : ∀ a0 k, LeO (pascalineref02_Decode.f k a0) (pascalineref02_Decode.f (k + 1) a0) := by
 intro a0 k
 obtain ⟨ih0, ih1, ih2, ih3, ih4⟩ := pascalineref02_Decode.mono_l k
 unfold pascalineref02_Decode.f
 repeat' first
  | (with_reducible exact ih0 _ _ _ _ _ _ _ _ _)
  | (with_reducible exact ih1 _ _ _ _ _ _ _ _)
  | (with_reducible exact ih2 _ _ _ _ _ _ _)
  | (with_reducible exact ih3 _ _ _ _ _ _ _ _)
  | (with_reducible exact ih4 _ _ _ _ _ _ _ _)
  | (with_reducible exact pascalineref01_Sext.mono _ _ _)
  | (with_reducible exact pascalineref02_Encode.mono _ _ _ _ _ _)
  | (with_reducible exact pascalineref02_Shape.mono _ _)
  | (with_reducible exact LeO.refl _)
  | (with_reducible exact LeO.none _)
  | (with_reducible refine LeO.ite ?_ ?_)
  | (with_reducible refine LeO.bind ?_ (fun _ => ?_))
  | exact LeO.none _
  | refine LeO.ite ?_ ?_
  | refine LeO.bind ?_ (fun _ => ?_)
set_option maxHeartbeats 8000000 in
set_option maxRecDepth 100000 in
theorem pascalineref02_Decode.calls (k : Nat) (a0 : Int) (r1 : Int) (r2 : Int) (r3 : Int) (r4 : Int) (r5 : Int) (r6 : Int) (w : World) (h : pascalineref02_Decode.f k a0 = some (r1, r2, r3, r4, r5, r6)) :
 Calls Try.prog 42 #[.int .u32 a0] w fun e w' => e = .returned (.tuple #[.agg #[.int .i64 r1, .int .i64 r2, .int .i64 r3, .int .i64 r4, .int .i64 r5], .int .i64 r6]) ∧ Below w.heap.size w w' := by
 have hu102 := Try.underlying102
 have HB := mK (Below.refl w.heap.size w)
 have H : ((pascalineref02_Shape.f k ((Int.tdiv a0 16777216) % 4294967296)).bind fun t272 => ((pascalineref02_has.f t272).bind fun bt273 => (if bt273.1 = true then (pascalineref02_Decode.j0 k a0 t272 bt273.2.1 bt273.2.2 ((Int.tdiv a0 16777216) % 4294967296) ((Int.tdiv a0 1048576) % 16) 0 0 0) else (pascalineref02_Decode.j0 k a0 t272 bt273.2.1 bt273.2.2 ((Int.tdiv a0 16777216) % 4294967296) 0 0 0 0)))) = some (r1, r2, r3, r4, r5, r6) := h
 clear h
 replace H := oB H
 obtain ⟨t272, A20, H⟩ := H
 replace H : ((pascalineref02_has.f t272).bind fun bt273 => (if bt273.1 = true then (pascalineref02_Decode.j0 k a0 t272 bt273.2.1 bt273.2.2 ((Int.tdiv a0 16777216) % 4294967296) ((Int.tdiv a0 1048576) % 16) 0 0 0) else (pascalineref02_Decode.j0 k a0 t272 bt273.2.1 bt273.2.2 ((Int.tdiv a0 16777216) % 4294967296) 0 0 0 0))) = some (r1, r2, r3, r4, r5, r6) := H
 have A2 := mK A20
 clear A20
 replace H := oB H
 obtain ⟨⟨t273, t274, t275⟩, A30, H⟩ := H
 replace H : (if t273 = true then (pascalineref02_Decode.j0 k a0 t272 t274 t275 ((Int.tdiv a0 16777216) % 4294967296) ((Int.tdiv a0 1048576) % 16) 0 0 0) else (pascalineref02_Decode.j0 k a0 t272 t274 t275 ((Int.tdiv a0 16777216) % 4294967296) 0 0 0 0)) = some (r1, r2, r3, r4, r5, r6) := H
 have A3 := mK A30
 clear A30
 have HC4 := mK H
 clear H
 go_enter Try.func42, Try.ntmps42
 go_upto_if 24 with (first | ((with_reducible refine gate_dst (N := 2) rfl ?_); refine box_event ?hg (N := 2) ?hd (cs := #[.int .i64 0, .int .i64 0, .int .i64 0, .int .i64 0, .int .i64 0]) (t := 102) ?hr ?_; (case hd => rfl); (case hg => rfl); (case hr => first | (go_simp; done) | (go_simp; rfl)); intro gb270 hg w5 hbox hb; have n0_ := mK (bP (by repeat (first | (with_reducible first | exact HB.out | apply bA | apply bN | apply bD) | exact HB.out)) hb); have n1_ := mK (hbox); have n2_ := mK ((by rw [hg]; exact (bZ (by repeat (first | (with_reducible first | exact HB.out | apply bA | apply bN | apply bD) | exact HB.out))) : w.heap.size ≤ gb270)); have n3_ := mK ((by rw [hg]; exact (bZ (by repeat (first | (with_reducible first | exact HB.out | apply bA | apply bN | apply bD) | exact HB.out))) : w.heap.size ≤ gb270)); clear HB; have HB := n0_; have BK270 := n1_; have GW270 := n2_; have GE270 := n3_; clear n0_ n1_ n2_ n3_; clear hb hbox hg) | ((with_reducible refine gate_dst (N := 4) rfl ?_); refine box_event ?hg (N := 4) ?hd (cs := #[.int .i64 0, .int .i64 0, .int .i64 0, .int .i64 0, .int .i64 0]) (t := 102) ?hr ?_; (case hd => rfl); (case hg => rfl); (case hr => first | (go_simp; done) | (go_simp; rfl)); intro gb271 hg w6 hbox hb; have n0_ := mK (kB (g := gb270) (o := o5 0 0 0 0 0 102) (by (with_reducible repeat (first | refine kN ?_ _ | refine kD ?_ | refine kA ?_ _)); exact BK270.out) hb); have n1_ := mK (bP (by repeat (first | (with_reducible first | exact HB.out | apply bA | apply bN | apply bD | refine bS ?_ GE270.out) | exact HB.out)) hb); have n2_ := mK (hbox); have n3_ := mK ((by rw [hg]; exact (bZ (by repeat (first | (with_reducible first | exact HB.out | apply bA | apply bN | apply bD | refine bS ?_ GE270.out) | exact HB.out))) : w.heap.size ≤ gb271)); have n4_ := mK ((by rw [hg]; exact (bZ (by repeat (first | (with_reducible first | exact HB.out | apply bA | apply bN | apply bD | refine bS ?_ GE270.out) | exact HB.out))) : w.heap.size ≤ gb271)); have n5_ := mK ((by rw [hg]; exact Nat.ne_of_lt (blk_lt (g := gb270) (o := o5 0 0 0 0 0 102) (by (with_reducible repeat (first | refine kN ?_ _ | refine kD ?_ | refine kA ?_ _)); exact BK270.out)) : gb270 ≠ gb271)); have n6_ := mK ((by rw [hg]; exact Nat.ne_of_gt (blk_lt (g := gb270) (o := o5 0 0 0 0 0 102) (by (with_reducible repeat (first | refine kN ?_ _ | refine kD ?_ | refine kA ?_ _)); exact BK270.out)) : gb271 ≠ gb270)); clear BK270; clear HB; have BK270 := n0_; have HB := n1_; have BK271 := n2_; have GW271 := n3_; have GE271 := n4_; have NB270_271 := n5_; have NB271_270 := n6_; clear n0_ n1_ n2_ n3_ n4_ n5_ n6_; clear hb hbox hg; have hnb7 := NB271_270.out; have hnc7 := NB270_271.out; obtain ⟨hcz8_0, hcz8_1, hcz8_2, hcz8_3, hcz8_4, hfz8_0, hfz8_1, hfz8_2, hfz8_3, hfz8_4⟩ := cf5 BK271.out) | ((with_reducible refine gate_callee (f := 49) rfl ?_); refine goesL_ (some 17) rfl rfl Try.func49 (by kernel_rfl) rfl #[.int .i64 ((Int.tdiv a0 16777216) % 4294967296)] rfl (by (try simp only [List.map_toArray, List.map_cons, List.map_nil]); first | done | rfl) ?_; (with_reducible refine (pascalineref02_Shape.calls k ((Int.tdiv a0 16777216) % 4294967296) t272 _ A2.out).mono ?_); rintro e w' ⟨rfl, ⟨nd, rfl⟩⟩; refine ⟨_, rfl, ?_⟩) | ((with_reducible refine gate_callee (f := 50) rfl ?_); refine goesL_ (some 20) rfl rfl Try.func50 (by kernel_rfl) rfl #[.int .i64 t272] rfl (by (try simp only [List.map_toArray, List.map_cons, List.map_nil]); first | done | rfl) ?_; (with_reducible refine (pascalineref02_has.calls t272 t273 t274 t275 _ A3.out).mono ?_); rintro e w' ⟨rfl, ⟨nd, rfl⟩⟩; refine ⟨_, rfl, ?_⟩))
 (try simp only [Act.put, List.setIfInBounds_toArray, List.set_cons_zero, List.set_cons_succ])
 go_cut [] (fun wc => ∃ (kq : Nat) (x272001_3 : Int), Aside0 (pascalineref02_Decode.j0 kq a0 t272 t274 t275 ((Int.tdiv a0 16777216) % 4294967296) x272001_3 0 0 0 = some (r1, r2, r3, r4, r5, r6)) ∧ Aside0 (kq ≤ k) ∧ Aside0 (wc.heap[gb270]? = some (o5 0 0 0 0 0 102)) ∧ Aside0 (wc.heap[gb271]? = some (.cells #[.int .i64 ((Int.tdiv a0 16777216) % 4294967296), .int .i64 x272001_3, .int .i64 0, .int .i64 0, .int .i64 0] 102 (0, 0))) ∧ Aside0 (Below w.heap.size w wc))
 case first =>
  have H := HC4.out
  clear HC4
  by_cases c9 : t273 = true
  ·
   subst c9
   have H1 : (pascalineref02_Decode.j0 k a0 t272 t274 t275 ((Int.tdiv a0 16777216) % 4294967296) ((Int.tdiv a0 1048576) % 16) 0 0 0) = some (r1, r2, r3, r4, r5, r6) := by rw [if_pos rfl] at H; exact H
   clear H
   have H := H1
   clear H1
   have H' := mK H
   clear H
   have hnb10 := NB271_270.out
   have hnc10 := NB270_271.out
   obtain ⟨hcz11_0, hcz11_1, hcz11_2, hcz11_3, hcz11_4, hfz11_0, hfz11_1, hfz11_2, hfz11_3, hfz11_4⟩ := cf5 BK271.out
   go_wp2
   go_meet
   case rel => exact ⟨_, ((Int.tdiv a0 1048576) % 16), H', ⟨by first | omega | exact Nat.le_refl _⟩, ⟨by (with_reducible repeat (first | refine kN ?_ _ | refine kD ?_ | refine kA ?_ _)); refine kR ?_ NB270_271.out _; (with_reducible repeat (first | refine kN ?_ _ | refine kD ?_ | refine kA ?_ _)); refine kR ?_ NB270_271.out _; (with_reducible repeat (first | refine kN ?_ _ | refine kD ?_ | refine kA ?_ _)); refine kR ?_ NB270_271.out _; (with_reducible repeat (first | refine kN ?_ _ | refine kD ?_ | refine kA ?_ _)); refine kR ?_ NB270_271.out _; (with_reducible repeat (first | refine kN ?_ _ | refine kD ?_ | refine kA ?_ _)); refine kR ?_ NB270_271.out _; (with_reducible repeat (first | refine kN ?_ _ | refine kD ?_ | refine kA ?_ _)); refine kR ?_ NB270_271.out _; (with_reducible repeat (first | refine kN ?_ _ | refine kD ?_ | refine kA ?_ _)); exact BK270.out⟩, ⟨by (with_reducible repeat (first | refine kN ?_ _ | refine kD ?_ | refine kA ?_ _)); refine kP (cs := #[.int .i64 ((Int.tdiv a0 16777216) % 4294967296), .int .i64 0, .int .i64 0, .int .i64 0, .int .i64 0]) ?_ 1 _ rfl; (with_reducible repeat (first | refine kN ?_ _ | refine kD ?_ | refine kA ?_ _)); refine kP (cs := #[.int .i64 ((Int.tdiv a0 16777216) % 4294967296), .int .i64 0, .int .i64 0, .int .i64 0, .int .i64 0]) ?_ 4 _ rfl; (with_reducible repeat (first | refine kN ?_ _ | refine kD ?_ | refine kA ?_ _)); refine kP (cs := #[.int .i64 ((Int.tdiv a0 16777216) % 4294967296), .int .i64 0, .int .i64 0, .int .i64 0, .int .i64 0]) ?_ 3 _ rfl; (with_reducible repeat (first | refine kN ?_ _ | refine kD ?_ | refine kA ?_ _)); refine kP (cs := #[.int .i64 ((Int.tdiv a0 16777216) % 4294967296), .int .i64 0, .int .i64 0, .int .i64 0, .int .i64 0]) ?_ 2 _ rfl; (with_reducible repeat (first | refine kN ?_ _ | refine kD ?_ | refine kA ?_ _)); refine kP (cs := #[.int .i64 ((Int.tdiv a0 16777216) % 4294967296), .int .i64 0, .int .i64 0, .int .i64 0, .int .i64 0]) ?_ 1 _ rfl; (with_reducible repeat (first | refine kN ?_ _ | refine kD ?_ | refine kA ?_ _)); refine kP (cs := #[.int .i64 0, .int .i64 0, .int .i64 0, .int .i64 0, .int .i64 0]) ?_ 0 _ rfl; (with_reducible repeat (first | refine kN ?_ _ | refine kD ?_ | refine kA ?_ _)); exact BK271.out⟩, ⟨by repeat (first | (with_reducible first | exact HB.out | apply bA | apply bN | apply bD | refine bS ?_ GE270.out | refine bS ?_ GE271.out) | exact HB.out)⟩⟩
  ·
   replace c9 := Bool.eq_false_iff.mpr c9
   subst c9
   have H1 : (pascalineref02_Decode.j0 k a0 t272 t274 t275 ((Int.tdiv a0 16777216) % 4294967296) 0 0 0 0) = some (r1, r2, r3, r4, r5, r6) := by rw [if_neg (show ¬ (false = true) by decide)] at H; exact H
   clear H
   have H := H1
   clear H1
   have H' := mK H
   clear H
   go_wp2
   go_meet
   case rel => exact ⟨_, (0), H', ⟨by first | omega | exact Nat.le_refl _⟩, ⟨by (with_reducible repeat (first | refine kN ?_ _ | refine kD ?_ | refine kA ?_ _)); refine kR ?_ NB270_271.out _; (with_reducible repeat (first | refine kN ?_ _ | refine kD ?_ | refine kA ?_ _)); refine kR ?_ NB270_271.out _; (with_reducible repeat (first | refine kN ?_ _ | refine kD ?_ | refine kA ?_ _)); refine kR ?_ NB270_271.out _; (with_reducible repeat (first | refine kN ?_ _ | refine kD ?_ | refine kA ?_ _)); refine kR ?_ NB270_271.out _; (with_reducible repeat (first | refine kN ?_ _ | refine kD ?_ | refine kA ?_ _)); refine kR ?_ NB270_271.out _; (with_reducible repeat (first | refine kN ?_ _ | refine kD ?_ | refine kA ?_ _)); exact BK270.out⟩, ⟨by (with_reducible repeat (first | refine kN ?_ _ | refine kD ?_ | refine kA ?_ _)); refine kP (cs := #[.int .i64 ((Int.tdiv a0 16777216) % 4294967296), .int .i64 0, .int .i64 0, .int .i64 0, .int .i64 0]) ?_ 4 _ rfl; (with_reducible repeat (first | refine kN ?_ _ | refine kD ?_ | refine kA ?_ _)); refine kP (cs := #[.int .i64 ((Int.tdiv a0 16777216) % 4294967296), .int .i64 0, .int .i64 0, .int .i64 0, .int .i64 0]) ?_ 3 _ rfl; (with_reducible repeat (first | refine kN ?_ _ | refine kD ?_ | refine kA ?_ _)); refine kP (cs := #[.int .i64 ((Int.tdiv a0 16777216) % 4294967296), .int .i64 0, .int .i64 0, .int .i64 0, .int .i64 0]) ?_ 2 _ rfl; (with_reducible repeat (first | refine kN ?_ _ | refine kD ?_ | refine kA ?_ _)); refine kP (cs := #[.int .i64 ((Int.tdiv a0 16777216) % 4294967296), .int .i64 0, .int .i64 0, .int .i64 0, .int .i64 0]) ?_ 1 _ rfl; (with_reducible repeat (first | refine kN ?_ _ | refine kD ?_ | refine kA ?_ _)); refine kP (cs := #[.int .i64 0, .int .i64 0, .int .i64 0, .int .i64 0, .int .i64 0]) ?_ 0 _ rfl; (with_reducible repeat (first | refine kN ?_ _ | refine kD ?_ | refine kA ?_ _)); exact BK271.out⟩, ⟨by repeat (first | (with_reducible first | exact HB.out | apply bA | apply bN | apply bD | refine bS ?_ GE270.out | refine bS ?_ GE271.out) | exact HB.out)⟩⟩
 case rest =>
  clear HC4
  (try clear hcz8_0); (try clear hcz8_1); (try clear hcz8_2); (try clear hcz8_3); (try clear hcz8_4); (try clear hfz8_0); (try clear hfz8_1); (try clear hfz8_2); (try clear hfz8_3); (try clear hfz8_4)
  obtain ⟨kq, x272001_3, HA, HJ3, BK270, BK271, HB⟩ := hcut
  cases kq with
  | zero => exact absurd HA.out (by simp [pascalineref02_Decode.j0])
  | succ kj3 =>
   have H := HA.out
   clear HA
   simp only [pascalineref02_Decode.j0] at H
   have HC12 := mK H
   clear H
   go_upto_if 30 with (fail)
   go_cut [] (fun wc => ∃ (kq : Nat) (x272002_11 : Int), Aside0 (pascalineref02_Decode.j1 kq a0 t272 t275 ((Int.tdiv a0 16777216) % 4294967296) x272001_3 x272002_11 0 0 = some (r1, r2, r3, r4, r5, r6)) ∧ Aside0 (kq ≤ kj3) ∧ Aside0 (wc.heap[gb270]? = some (o5 0 0 0 0 0 102)) ∧ Aside0 (wc.heap[gb271]? = some (.cells #[.int .i64 ((Int.tdiv a0 16777216) % 4294967296), .int .i64 x272001_3, .int .i64 x272002_11, .int .i64 0, .int .i64 0] 102 (0, 0))) ∧ Aside0 (Below w.heap.size w wc))
   case first =>
    have H := HC12.out
    clear HC12
    by_cases c13 : t274 = true
    ·
     subst c13
     have H1 : (pascalineref02_Decode.j1 kj3 a0 t272 t275 ((Int.tdiv a0 16777216) % 4294967296) x272001_3 ((Int.tdiv a0 65536) % 16) 0 0) = some (r1, r2, r3, r4, r5, r6) := by rw [if_pos rfl] at H; exact H
     clear H
     have H := H1
     clear H1
     have H' := mK H
     clear H
     have hnb14 := NB271_270.out
     have hnc14 := NB270_271.out
     obtain ⟨hcz15_0, hcz15_1, hcz15_2, hcz15_3, hcz15_4, hfz15_0, hfz15_1, hfz15_2, hfz15_3, hfz15_4⟩ := cf5 BK271.out
     go_wp2
     go_meet
     case rel => exact ⟨_, ((Int.tdiv a0 65536) % 16), H', ⟨by have := HJ3.out; first | omega | exact Nat.le_refl _⟩, ⟨by (with_reducible repeat (first | refine kN ?_ _ | refine kD ?_ | refine kA ?_ _)); refine kR ?_ NB270_271.out _; (with_reducible repeat (first | refine kN ?_ _ | refine kD ?_ | refine kA ?_ _)); exact BK270.out⟩, ⟨by (with_reducible repeat (first | refine kN ?_ _ | refine kD ?_ | refine kA ?_ _)); refine kP (cs := #[.int .i64 ((Int.tdiv a0 16777216) % 4294967296), .int .i64 x272001_3, .int .i64 0, .int .i64 0, .int .i64 0]) ?_ 2 _ rfl; (with_reducible repeat (first | refine kN ?_ _ | refine kD ?_ | refine kA ?_ _)); exact BK271.out⟩, ⟨by repeat (first | (with_reducible first | exact HB.out | apply bA | apply bN | apply bD | refine bS ?_ GE270.out | refine bS ?_ GE271.out) | exact HB.out)⟩⟩
    ·
     replace c13 := Bool.eq_false_iff.mpr c13
     subst c13
     have H1 : (pascalineref02_Decode.j1 kj3 a0 t272 t275 ((Int.tdiv a0 16777216) % 4294967296) x272001_3 0 0 0) = some (r1, r2, r3, r4, r5, r6) := by rw [if_neg (show ¬ (false = true) by decide)] at H; exact H
     clear H
     have H := H1
     clear H1
     have H' := mK H
     clear H
     go_wp2
     go_meet
     case rel => exact ⟨_, (0), H', ⟨by have := HJ3.out; first | omega | exact Nat.le_refl _⟩, ⟨by (with_reducible repeat (first | refine kN ?_ _ | refine kD ?_ | refine kA ?_ _)); exact BK270.out⟩, ⟨by (with_reducible repeat (first | refine kN ?_ _ | refine kD ?_ | refine kA ?_ _)); exact BK271.out⟩, ⟨by repeat (first | (with_reducible first | exact HB.out | apply bA | apply bN | apply bD | refine bS ?_ GE270.out | refine bS ?_ GE271.out) | exact HB.out)⟩⟩
   case rest =>
    clear HC12
    (try clear hcz8_0); (try clear hcz8_1); (try clear hcz8_2); (try clear hcz8_3); (try clear hcz8_4); (try clear hfz8_0); (try clear hfz8_1); (try clear hfz8_2); (try clear hfz8_3); (try clear hfz8_4)
    obtain ⟨kq, x272002_11, HA, HJ11, BK270, BK271, HB⟩ := hcut
    cases kq with
    | zero => exact absurd HA.out (by simp [pascalineref02_Decode.j1])
    | succ kj11 =>
     have H := HA.out
     clear HA
     simp only [pascalineref02_Decode.j1] at H
     have HC16 := mK H
     clear H
     go_upto_if 36 with (fail)
     go_cut [] (fun wc => ∃ (kq : Nat) (x272003_15 : Int), Aside0 (pascalineref02_Decode.j2 kq a0 t272 ((Int.tdiv a0 16777216) % 4294967296) x272001_3 x272002_11 x272003_15 0 = some (r1, r2, r3, r4, r5, r6)) ∧ Aside0 (kq ≤ kj11) ∧ Aside0 (wc.heap[gb270]? = some (o5 0 0 0 0 0 102)) ∧ Aside0 (wc.heap[gb271]? = some (.cells #[.int .i64 ((Int.tdiv a0 16777216) % 4294967296), .int .i64 x272001_3, .int .i64 x272002_11, .int .i64 x272003_15, .int .i64 0] 102 (0, 0))) ∧ Aside0 (Below w.heap.size w wc))
     case first =>
      have H := HC16.out
      clear HC16
      by_cases c17 : t275 = true
      ·
       subst c17
       have H1 : (pascalineref02_Decode.j2 kj11 a0 t272 ((Int.tdiv a0 16777216) % 4294967296) x272001_3 x272002_11 (wrap64 (Int.tmod a0 16)) 0) = some (r1, r2, r3, r4, r5, r6) := by rw [if_pos rfl] at H; exact H
       clear H
       have H := H1
       clear H1
       have H' := mK H
       clear H
       have hnb18 := NB271_270.out
       have hnc18 := NB270_271.out
       obtain ⟨hcz19_0, hcz19_1, hcz19_2, hcz19_3, hcz19_4, hfz19_0, hfz19_1, hfz19_2, hfz19_3, hfz19_4⟩ := cf5 BK271.out
       go_wp2
       go_meet
       case rel => exact ⟨_, (wrap64 (Int.tmod a0 16)), H', ⟨by have := HJ3.out; have := HJ11.out; first | omega | exact Nat.le_refl _⟩, ⟨by (with_reducible repeat (first | refine kN ?_ _ | refine kD ?_ | refine kA ?_ _)); refine kR ?_ NB270_271.out _; (with_reducible repeat (first | refine kN ?_ _ | refine kD ?_ | refine kA ?_ _)); exact BK270.out⟩, ⟨by (with_reducible repeat (first | refine kN ?_ _ | refine kD ?_ | refine kA ?_ _)); refine kP (cs := #[.int .i64 ((Int.tdiv a0 16777216) % 4294967296), .int .i64 x272001_3, .int .i64 x272002_11, .int .i64 0, .int .i64 0]) ?_ 3 _ rfl; (with_reducible repeat (first | refine kN ?_ _ | refine kD ?_ | refine kA ?_ _)); exact BK271.out⟩, ⟨by repeat (first | (with_reducible first | exact HB.out | apply bA | apply bN | apply bD | refine bS ?_ GE270.out | refine bS ?_ GE271.out) | exact HB.out)⟩⟩
      ·
       replace c17 := Bool.eq_false_iff.mpr c17
       subst c17
       have H1 : (pascalineref02_Decode.j2 kj11 a0 t272 ((Int.tdiv a0 16777216) % 4294967296) x272001_3 x272002_11 0 0) = some (r1, r2, r3, r4, r5, r6) := by rw [if_neg (show ¬ (false = true) by decide)] at H; exact H
       clear H
       have H := H1
       clear H1
       have H' := mK H
       clear H
       go_wp2
       go_meet
       case rel => exact ⟨_, (0), H', ⟨by have := HJ3.out; have := HJ11.out; first | omega | exact Nat.le_refl _⟩, ⟨by (with_reducible repeat (first | refine kN ?_ _ | refine kD ?_ | refine kA ?_ _)); exact BK270.out⟩, ⟨by (with_reducible repeat (first | refine kN ?_ _ | refine kD ?_ | refine kA ?_ _)); exact BK271.out⟩, ⟨by repeat (first | (with_reducible first | exact HB.out | apply bA | apply bN | apply bD | refine bS ?_ GE270.out | refine bS ?_ GE271.out) | exact HB.out)⟩⟩
     case rest =>
      clear HC16
      (try clear hcz8_0); (try clear hcz8_1); (try clear hcz8_2); (try clear hcz8_3); (try clear hcz8_4); (try clear hfz8_0); (try clear hfz8_1); (try clear hfz8_2); (try clear hfz8_3); (try clear hfz8_4)
      obtain ⟨kq, x272003_15, HA, HJ15, BK270, BK271, HB⟩ := hcut
      cases kq with
      | zero => exact absurd HA.out (by simp [pascalineref02_Decode.j2])
      | succ kj15 =>
       have H := HA.out
       clear HA
       simp only [pascalineref02_Decode.j2] at H
       have HC20 := mK H
       clear H
       go_upto_if 42 with (fail)
       go_cut [42] (fun v42 wc => ∃ (kq : Nat) (x42_19 : Bool), v42 = .bool x42_19 ∧ Aside0 (pascalineref02_Decode.j3 kq a0 t272 x42_19 ((Int.tdiv a0 16777216) % 4294967296) x272001_3 x272002_11 x272003_15 0 = some (r1, r2, r3, r4, r5, r6)) ∧ Aside0 (kq ≤ kj15) ∧ Aside0 (wc.heap[gb270]? = some (o5 0 0 0 0 0 102)) ∧ Aside0 (wc.heap[gb271]? = some (.cells #[.int .i64 ((Int.tdiv a0 16777216) % 4294967296), .int .i64 x272001_3, .int .i64 x272002_11, .int .i64 x272003_15, .int .i64 0] 102 (0, 0))) ∧ Aside0 (Below w.heap.size w wc))
       case first =>
        have H := HC20.out
        clear HC20
        by_cases c21 : t272 = 1
        ·
         rw [if_pos c21] at H
         have c21b0 : (t272 == 1) = true := beq_iff_eq.mpr c21
         have c21b1 : (t272 != 1) = false := bR c21
         clear c21
         (first | rw [c21b0] | (simp only [i64_w, i32_w]; rw [c21b0]) | skip)
         have H' := mK H
         clear H
         go_wp2
         go_meet
         case rel => exact ⟨_, ((t272 == 1)), (by first | rfl | (simp; done) | (simp [*]; done)), H', ⟨by have := HJ3.out; have := HJ11.out; have := HJ15.out; first | omega | exact Nat.le_refl _⟩, ⟨by (with_reducible repeat (first | refine kN ?_ _ | refine kD ?_ | refine kA ?_ _)); exact BK270.out⟩, ⟨by (with_reducible repeat (first | refine kN ?_ _ | refine kD ?_ | refine kA ?_ _)); exact BK271.out⟩, ⟨by repeat (first | (with_reducible first | exact HB.out | apply bA | apply bN | apply bD | refine bS ?_ GE270.out | refine bS ?_ GE271.out) | exact HB.out)⟩⟩
        ·
         rw [if_neg c21] at H
         have c21b0 : (t272 == 1) = false := bQ c21
         have c21b1 : (t272 != 1) = true := bne_iff_ne.mpr c21
         (first | rw [c21b0] | (simp only [i64_w, i32_w]; rw [c21b0]) | skip)
         have H' := mK H
         clear H
         go_wp2
         go_meet
         case rel => exact ⟨_, ((t272 == 3)), (by first | rfl | (simp; done) | (simp [*]; done)), H', ⟨by have := HJ3.out; have := HJ11.out; have := HJ15.out; first | omega | exact Nat.le_refl _⟩, ⟨by (with_reducible repeat (first | refine kN ?_ _ | refine kD ?_ | refine kA ?_ _)); exact BK270.out⟩, ⟨by (with_reducible repeat (first | refine kN ?_ _ | refine kD ?_ | refine kA ?_ _)); exact BK271.out⟩, ⟨by repeat (first | (with_reducible first | exact HB.out | apply bA | apply bN | apply bD | refine bS ?_ GE270.out | refine bS ?_ GE271.out) | exact HB.out)⟩⟩
       case rest =>
        clear HC20
        (try clear hcz8_0); (try clear hcz8_1); (try clear hcz8_2); (try clear hcz8_3); (try clear hcz8_4); (try clear hfz8_0); (try clear hfz8_1); (try clear hfz8_2); (try clear hfz8_3); (try clear hfz8_4)
        obtain ⟨kq, x42_19, rfl, HA, HJ19, BK270, BK271, HB⟩ := hcut
        cases kq with
        | zero => exact absurd HA.out (by simp [pascalineref02_Decode.j3])
        | succ kj19 =>
         have H := HA.out
         clear HA
         simp only [pascalineref02_Decode.j3] at H
         by_cases c22 : x42_19 = true
         ·
          subst c22
          have H1 : ((pascalineref01_Sext.f kj19 a0 16).bind fun t276 => ((pascalineref02_Encode.f kj19 ((Int.tdiv a0 16777216) % 4294967296) x272001_3 x272002_11 x272003_15 (wrap64 (t276))).bind fun bt277 => (if bt277.2 = 0 then (if bt277.1 = a0 then (some (((Int.tdiv a0 16777216) % 4294967296), x272001_3, x272002_11, x272003_15, wrap64 (t276), 0)) else (some (0, 0, 0, 0, 0, 21))) else (some (0, 0, 0, 0, 0, 21))))) = some (r1, r2, r3, r4, r5, r6) := by rw [if_pos rfl] at H; exact H
          clear H
          have H := H1
          clear H1
          replace H := oB H
          obtain ⟨t276, A230, H⟩ := H
          replace H : ((pascalineref02_Encode.f kj19 ((Int.tdiv a0 16777216) % 4294967296) x272001_3 x272002_11 x272003_15 (wrap64 (t276))).bind fun bt277 => (if bt277.2 = 0 then (if bt277.1 = a0 then (some (((Int.tdiv a0 16777216) % 4294967296), x272001_3, x272002_11, x272003_15, wrap64 (t276), 0)) else (some (0, 0, 0, 0, 0, 21))) else (some (0, 0, 0, 0, 0, 21)))) = some (r1, r2, r3, r4, r5, r6) := H
          have A23 := mK A230
          clear A230
          replace H := oB H
          obtain ⟨⟨t277, t278⟩, A240, H⟩ := H
          replace H : (if t278 = 0 then (if t277 = a0 then (some (((Int.tdiv a0 16777216) % 4294967296), x272001_3, x272002_11, x272003_15, wrap64 (t276), 0)) else (some (0, 0, 0, 0, 0, 21))) else (some (0, 0, 0, 0, 0, 21))) = some (r1, r2, r3, r4, r5, r6) := H
          have A24 := mK A240
          clear A240
          by_cases c25 : t278 = 0
          ·
           rw [if_pos c25] at H
           have c25b0 : (t278 == 0) = true := beq_iff_eq.mpr c25
           have c25b1 : (t278 != 0) = false := bR c25
           clear c25
           by_cases c26 : t277 = a0
           ·
            rw [if_pos c26] at H
            have c26b0 : (t277 == a0) = true := beq_iff_eq.mpr c26
            have c26b1 : (t277 != a0) = false := bR c26
            clear c26
            simp only [Option.some.injEq, Prod.mk.injEq] at H
            obtain ⟨rfl, rfl, rfl, rfl, rfl, rfl⟩ := H
            go_wp2_with (first | ((with_reducible refine gate_callee (f := 51) rfl ?_); refine goesL_ (some 46) rfl rfl Try.func51 (by kernel_rfl) rfl #[.int .u32 a0, .int .i64 16] rfl (by (try simp only [List.map_toArray, List.map_cons, List.map_nil]); first | done | rfl) ?_; (with_reducible refine (pascalineref01_Sext.calls kj19 a0 16 t276 _ A23.out).mono ?_); rintro e w27 ⟨rfl, hb⟩; refine ⟨_, rfl, ?_⟩; have n0_ := mK (kB (g := gb270) (o := o5 0 0 0 0 0 102) (by (with_reducible repeat (first | refine kN ?_ _ | refine kD ?_ | refine kA ?_ _)); exact BK270.out) hb); have n1_ := mK (kB (g := gb271) (o := .cells #[.int .i64 ((Int.tdiv a0 16777216) % 4294967296), .int .i64 x272001_3, .int .i64 x272002_11, .int .i64 x272003_15, .int .i64 0] 102 (0, 0)) (by (with_reducible repeat (first | refine kN ?_ _ | refine kD ?_ | refine kA ?_ _)); exact BK271.out) hb); have n2_ := mK (bP (by repeat (first | (with_reducible first | exact HB.out | apply bA | apply bN | apply bD | refine bS ?_ GE270.out | refine bS ?_ GE271.out) | exact HB.out)) hb); clear BK270; clear BK271; clear HB; have BK270 := n0_; have BK271 := n1_; have HB := n2_; clear n0_ n1_ n2_; (try clear hb); have hnb28 := NB271_270.out; have hnc28 := NB270_271.out; obtain ⟨hcz29_0, hcz29_1, hcz29_2, hcz29_3, hcz29_4, hfz29_0, hfz29_1, hfz29_2, hfz29_3, hfz29_4⟩ := cf5 BK271.out) | ((with_reducible refine gate_callee (f := 52) rfl ?_); refine goesL_ (some 65) rfl rfl Try.func52 (by kernel_rfl) rfl #[.agg #[.int .i64 ((Int.tdiv a0 16777216) % 4294967296), .int .i64 x272001_3, .int .i64 x272002_11, .int .i64 x272003_15, .int .i64 (wrap64 (t276))]] rfl (by (try simp only [List.map_toArray, List.map_cons, List.map_nil]); first | done | rfl) ?_; (with_reducible refine (pascalineref02_Encode.calls kj19 ((Int.tdiv a0 16777216) % 4294967296) x272001_3 x272002_11 x272003_15 (wrap64 (t276)) t277 t278 _ A24.out).mono ?_); rintro e w30 ⟨rfl, hb⟩; refine ⟨_, rfl, ?_⟩; have n0_ := mK (kB (g := gb270) (o := o5 0 0 0 0 0 102) (by (with_reducible repeat (first | refine kN ?_ _ | refine kD ?_ | refine kA ?_ _)); refine kR ?_ NB270_271.out _; (with_reducible repeat (first | refine kN ?_ _ | refine kD ?_ | refine kA ?_ _)); exact BK270.out) hb); have n1_ := mK (kB (g := gb271) (o := .cells #[.int .i64 ((Int.tdiv a0 16777216) % 4294967296), .int .i64 x272001_3, .int .i64 x272002_11, .int .i64 x272003_15, .int .i64 (wrap64 (t276))] 102 (0, 0)) (by (with_reducible repeat (first | refine kN ?_ _ | refine kD ?_ | refine kA ?_ _)); refine kP (cs := #[.int .i64 ((Int.tdiv a0 16777216) % 4294967296), .int .i64 x272001_3, .int .i64 x272002_11, .int .i64 x272003_15, .int .i64 0]) ?_ 4 _ rfl; (with_reducible repeat (first | refine kN ?_ _ | refine kD ?_ | refine kA ?_ _)); exact BK271.out) hb); have n2_ := mK (bP (by repeat (first | (with_reducible first | exact HB.out | apply bA | apply bN | apply bD | refine bS ?_ GE270.out | refine bS ?_ GE271.out) | exact HB.out)) hb); clear BK270; clear BK271; clear HB; have BK270 := n0_; have BK271 := n1_; have HB := n2_; clear n0_ n1_ n2_; (try clear hb); obtain ⟨hcz31_0, hcz31_1, hcz31_2, hcz31_3, hcz31_4, hfz31_0, hfz31_1, hfz31_2, hfz31_3, hfz31_4⟩ := cf5 BK271.out; obtain ⟨hcz32_0, hcz32_1, hcz32_2, hcz32_3, hcz32_4, hfz32_0, hfz32_1, hfz32_2, hfz32_3, hfz32_4⟩ := cf5 BK270.out))
            refine bodyPost_ret (results_ct rfl _ _ gb270 102 #[.int .i64 ((Int.tdiv a0 16777216) % 4294967296), .int .i64 x272001_3, .int .i64 x272002_11, .int .i64 x272003_15, .int .i64 (wrap64 (t276))] (0, 0) _ rfl (by (with_reducible repeat (first | refine kN ?_ _ | refine kD ?_ | refine kA ?_ _)); refine kP (cs := #[.int .i64 ((Int.tdiv a0 16777216) % 4294967296), .int .i64 x272001_3, .int .i64 x272002_11, .int .i64 x272003_15, .int .i64 0]) ?_ 4 _ rfl; (with_reducible repeat (first | refine kN ?_ _ | refine kD ?_ | refine kA ?_ _)); refine kP (cs := #[.int .i64 ((Int.tdiv a0 16777216) % 4294967296), .int .i64 x272001_3, .int .i64 x272002_11, .int .i64 0, .int .i64 0]) ?_ 3 _ rfl; (with_reducible repeat (first | refine kN ?_ _ | refine kD ?_ | refine kA ?_ _)); refine kP (cs := #[.int .i64 ((Int.tdiv a0 16777216) % 4294967296), .int .i64 x272001_3, .int .i64 0, .int .i64 0, .int .i64 0]) ?_ 2 _ rfl; (with_reducible repeat (first | refine kN ?_ _ | refine kD ?_ | refine kA ?_ _)); refine kP (cs := #[.int .i64 ((Int.tdiv a0 16777216) % 4294967296), .int .i64 0, .int .i64 0, .int .i64 0, .int .i64 0]) ?_ 1 _ rfl; (with_reducible repeat (first | refine kN ?_ _ | refine kD ?_ | refine kA ?_ _)); refine kP (cs := #[.int .i64 0, .int .i64 0, .int .i64 0, .int .i64 0, .int .i64 0]) ?_ 0 _ rfl; (with_reducible repeat (first | refine kN ?_ _ | refine kD ?_ | refine kA ?_ _)); exact BK270.out) Try.underlying102 rfl (by kernel_rfl)) rfl ?_
            exact ⟨by first | rfl | (simp [errW_none, errW_some] <;> rfl) | (simp [*, errW_none, errW_some] <;> rfl), by repeat (first | (with_reducible first | exact HB.out | apply bA | apply bN | apply bD | refine bS ?_ GE270.out | refine bS ?_ GE271.out) | exact HB.out)⟩
           ·
            rw [if_neg c26] at H
            have c26b0 : (t277 == a0) = false := bQ c26
            have c26b1 : (t277 != a0) = true := bne_iff_ne.mpr c26
            simp only [Option.some.injEq, Prod.mk.injEq] at H
            obtain ⟨rfl, rfl, rfl, rfl, rfl, rfl⟩ := H
            go_wp2_with (first | ((with_reducible refine gate_callee (f := 51) rfl ?_); refine goesL_ (some 46) rfl rfl Try.func51 (by kernel_rfl) rfl #[.int .u32 a0, .int .i64 16] rfl (by (try simp only [List.map_toArray, List.map_cons, List.map_nil]); first | done | rfl) ?_; (with_reducible refine (pascalineref01_Sext.calls kj19 a0 16 t276 _ A23.out).mono ?_); rintro e w33 ⟨rfl, hb⟩; refine ⟨_, rfl, ?_⟩; have n0_ := mK (kB (g := gb270) (o := o5 0 0 0 0 0 102) (by (with_reducible repeat (first | refine kN ?_ _ | refine kD ?_ | refine kA ?_ _)); exact BK270.out) hb); have n1_ := mK (kB (g := gb271) (o := .cells #[.int .i64 ((Int.tdiv a0 16777216) % 4294967296), .int .i64 x272001_3, .int .i64 x272002_11, .int .i64 x272003_15, .int .i64 0] 102 (0, 0)) (by (with_reducible repeat (first | refine kN ?_ _ | refine kD ?_ | refine kA ?_ _)); exact BK271.out) hb); have n2_ := mK (bP (by repeat (first | (with_reducible first | exact HB.out | apply bA | apply bN | apply bD | refine bS ?_ GE270.out | refine bS ?_ GE271.out) | exact HB.out)) hb); clear BK270; clear BK271; clear HB; have BK270 := n0_; have BK271 := n1_; have HB := n2_; clear n0_ n1_ n2_; (try clear hb); have hnb34 := NB271_270.out; have hnc34 := NB270_271.out; obtain ⟨hcz35_0, hcz35_1, hcz35_2, hcz35_3, hcz35_4, hfz35_0, hfz35_1, hfz35_2, hfz35_3, hfz35_4⟩ := cf5 BK271.out) | ((with_reducible refine gate_callee (f := 52) rfl ?_); refine goesL_ (some 65) rfl rfl Try.func52 (by kernel_rfl) rfl #[.agg #[.int .i64 ((Int.tdiv a0 16777216) % 4294967296), .int .i64 x272001_3, .int .i64 x272002_11, .int .i64 x272003_15, .int .i64 (wrap64 (t276))]] rfl (by (try simp only [List.map_toArray, List.map_cons, List.map_nil]); first | done | rfl) ?_; (with_reducible refine (pascalineref02_Encode.calls kj19 ((Int.tdiv a0 16777216) % 4294967296) x272001_3 x272002_11 x272003_15 (wrap64 (t276)) t277 t278 _ A24.out).mono ?_); rintro e w36 ⟨rfl, hb⟩; refine ⟨_, rfl, ?_⟩; have n0_ := mK (kB (g := gb270) (o := o5 0 0 0 0 0 102) (by (with_reducible repeat (first | refine kN ?_ _ | refine kD ?_ | refine kA ?_ _)); refine kR ?_ NB270_271.out _; (with_reducible repeat (first | refine kN ?_ _ | refine kD ?_ | refine kA ?_ _)); exact BK270.out) hb); have n1_ := mK (kB (g := gb271) (o := .cells #[.int .i64 ((Int.tdiv a0 16777216) % 4294967296), .int .i64 x272001_3, .int .i64 x272002_11, .int .i64 x272003_15, .int .i64 (wrap64 (t276))] 102 (0, 0)) (by (with_reducible repeat (first | refine kN ?_ _ | refine kD ?_ | refine kA ?_ _)); refine kP (cs := #[.int .i64 ((Int.tdiv a0 16777216) % 4294967296), .int .i64 x272001_3, .int .i64 x272002_11, .int .i64 x272003_15, .int .i64 0]) ?_ 4 _ rfl; (with_reducible repeat (first | refine kN ?_ _ | refine kD ?_ | refine kA ?_ _)); exact BK271.out) hb); have n2_ := mK (bP (by repeat (first | (with_reducible first | exact HB.out | apply bA | apply bN | apply bD | refine bS ?_ GE270.out | refine bS ?_ GE271.out) | exact HB.out)) hb); clear BK270; clear BK271; clear HB; have BK270 := n0_; have BK271 := n1_; have HB := n2_; clear n0_ n1_ n2_; (try clear hb); obtain ⟨hcz37_0, hcz37_1, hcz37_2, hcz37_3, hcz37_4, hfz37_0, hfz37_1, hfz37_2, hfz37_3, hfz37_4⟩ := cf5 BK270.out))
            refine bodyPost_ret (results_ct rfl _ _ gb270 102 #[.int .i64 0, .int .i64 0, .int .i64 0, .int .i64 0, .int .i64 0] (0, 0) _ rfl (by (with_reducible repeat (first | refine kN ?_ _ | refine kD ?_ | refine kA ?_ _)); refine kP (cs := #[.int .i64 0, .int .i64 0, .int .i64 0, .int .i64 0, .int .i64 0]) ?_ 4 _ rfl; (with_reducible repeat (first | refine kN ?_ _ | refine kD ?_ | refine kA ?_ _)); refine kP (cs := #[.int .i64 0, .int .i64 0, .int .i64 0, .int .i64 0, .int .i64 0]) ?_ 3 _ rfl; (with_reducible repeat (first | refine kN ?_ _ | refine kD ?_ | refine kA ?_ _)); refine kP (cs := #[.int .i64 0, .int .i64 0, .int .i64 0, .int .i64 0, .int .i64 0]) ?_ 2 _ rfl; (with_reducible repeat (first | refine kN ?_ _ | refine kD ?_ | refine kA ?_ _)); refine kP (cs := #[.int .i64 0, .int .i64 0, .int .i64 0, .int .i64 0, .int .i64 0]) ?_ 1 _ rfl; (with_reducible repeat (first | refine kN ?_ _ | refine kD ?_ | refine kA ?_ _)); refine kP (cs := #[.int .i64 0, .int .i64 0, .int .i64 0, .int .i64 0, .int .i64 0]) ?_ 0 _ rfl; (with_reducible repeat (first | refine kN ?_ _ | refine kD ?_ | refine kA ?_ _)); exact BK270.out) Try.underlying102 rfl (by kernel_rfl)) rfl ?_
            exact ⟨by first | rfl | (simp [errW_none, errW_some] <;> rfl) | (simp [*, errW_none, errW_some] <;> rfl), by repeat (first | (with_reducible first | exact HB.out | apply bA | apply bN | apply bD | refine bS ?_ GE270.out | refine bS ?_ GE271.out) | exact HB.out)⟩
          ·
           rw [if_neg c25] at H
           have c25b0 : (t278 == 0) = false := bQ c25
           have c25b1 : (t278 != 0) = true := bne_iff_ne.mpr c25
           simp only [Option.some.injEq, Prod.mk.injEq] at H
           obtain ⟨rfl, rfl, rfl, rfl, rfl, rfl⟩ := H
           go_wp2_with (first | ((with_reducible refine gate_callee (f := 51) rfl ?_); refine goesL_ (some 46) rfl rfl Try.func51 (by kernel_rfl) rfl #[.int .u32 a0, .int .i64 16] rfl (by (try simp only [List.map_toArray, List.map_cons, List.map_nil]); first | done | rfl) ?_; (with_reducible refine (pascalineref01_Sext.calls kj19 a0 16 t276 _ A23.out).mono ?_); rintro e w38 ⟨rfl, hb⟩; refine ⟨_, rfl, ?_⟩; have n0_ := mK (kB (g := gb270) (o := o5 0 0 0 0 0 102) (by (with_reducible repeat (first | refine kN ?_ _ | refine kD ?_ | refine kA ?_ _)); exact BK270.out) hb); have n1_ := mK (kB (g := gb271) (o := .cells #[.int .i64 ((Int.tdiv a0 16777216) % 4294967296), .int .i64 x272001_3, .int .i64 x272002_11, .int .i64 x272003_15, .int .i64 0] 102 (0, 0)) (by (with_reducible repeat (first | refine kN ?_ _ | refine kD ?_ | refine kA ?_ _)); exact BK271.out) hb); have n2_ := mK (bP (by repeat (first | (with_reducible first | exact HB.out | apply bA | apply bN | apply bD | refine bS ?_ GE270.out | refine bS ?_ GE271.out) | exact HB.out)) hb); clear BK270; clear BK271; clear HB; have BK270 := n0_; have BK271 := n1_; have HB := n2_; clear n0_ n1_ n2_; (try clear hb); have hnb39 := NB271_270.out; have hnc39 := NB270_271.out; obtain ⟨hcz40_0, hcz40_1, hcz40_2, hcz40_3, hcz40_4, hfz40_0, hfz40_1, hfz40_2, hfz40_3, hfz40_4⟩ := cf5 BK271.out) | ((with_reducible refine gate_callee (f := 52) rfl ?_); refine goesL_ (some 65) rfl rfl Try.func52 (by kernel_rfl) rfl #[.agg #[.int .i64 ((Int.tdiv a0 16777216) % 4294967296), .int .i64 x272001_3, .int .i64 x272002_11, .int .i64 x272003_15, .int .i64 (wrap64 (t276))]] rfl (by (try simp only [List.map_toArray, List.map_cons, List.map_nil]); first | done | rfl) ?_; (with_reducible refine (pascalineref02_Encode.calls kj19 ((Int.tdiv a0 16777216) % 4294967296) x272001_3 x272002_11 x272003_15 (wrap64 (t276)) t277 t278 _ A24.out).mono ?_); rintro e w41 ⟨rfl, hb⟩; refine ⟨_, rfl, ?_⟩; have n0_ := mK (kB (g := gb270) (o := o5 0 0 0 0 0 102) (by (with_reducible repeat (first | refine kN ?_ _ | refine kD ?_ | refine kA ?_ _)); refine kR ?_ NB270_271.out _; (with_reducible repeat (first | refine kN ?_ _ | refine kD ?_ | refine kA ?_ _)); exact BK270.out) hb); have n1_ := mK (kB (g := gb271) (o := .cells #[.int .i64 ((Int.tdiv a0 16777216) % 4294967296), .int .i64 x272001_3, .int .i64 x272002_11, .int .i64 x272003_15, .int .i64 (wrap64 (t276))] 102 (0, 0)) (by (with_reducible repeat (first | refine kN ?_ _ | refine kD ?_ | refine kA ?_ _)); refine kP (cs := #[.int .i64 ((Int.tdiv a0 16777216) % 4294967296), .int .i64 x272001_3, .int .i64 x272002_11, .int .i64 x272003_15, .int .i64 0]) ?_ 4 _ rfl; (with_reducible repeat (first | refine kN ?_ _ | refine kD ?_ | refine kA ?_ _)); exact BK271.out) hb); have n2_ := mK (bP (by repeat (first | (with_reducible first | exact HB.out | apply bA | apply bN | apply bD | refine bS ?_ GE270.out | refine bS ?_ GE271.out) | exact HB.out)) hb); clear BK270; clear BK271; clear HB; have BK270 := n0_; have BK271 := n1_; have HB := n2_; clear n0_ n1_ n2_; (try clear hb); obtain ⟨hcz42_0, hcz42_1, hcz42_2, hcz42_3, hcz42_4, hfz42_0, hfz42_1, hfz42_2, hfz42_3, hfz42_4⟩ := cf5 BK270.out))
           refine bodyPost_ret (results_ct rfl _ _ gb270 102 #[.int .i64 0, .int .i64 0, .int .i64 0, .int .i64 0, .int .i64 0] (0, 0) _ rfl (by (with_reducible repeat (first | refine kN ?_ _ | refine kD ?_ | refine kA ?_ _)); refine kP (cs := #[.int .i64 0, .int .i64 0, .int .i64 0, .int .i64 0, .int .i64 0]) ?_ 4 _ rfl; (with_reducible repeat (first | refine kN ?_ _ | refine kD ?_ | refine kA ?_ _)); refine kP (cs := #[.int .i64 0, .int .i64 0, .int .i64 0, .int .i64 0, .int .i64 0]) ?_ 3 _ rfl; (with_reducible repeat (first | refine kN ?_ _ | refine kD ?_ | refine kA ?_ _)); refine kP (cs := #[.int .i64 0, .int .i64 0, .int .i64 0, .int .i64 0, .int .i64 0]) ?_ 2 _ rfl; (with_reducible repeat (first | refine kN ?_ _ | refine kD ?_ | refine kA ?_ _)); refine kP (cs := #[.int .i64 0, .int .i64 0, .int .i64 0, .int .i64 0, .int .i64 0]) ?_ 1 _ rfl; (with_reducible repeat (first | refine kN ?_ _ | refine kD ?_ | refine kA ?_ _)); refine kP (cs := #[.int .i64 0, .int .i64 0, .int .i64 0, .int .i64 0, .int .i64 0]) ?_ 0 _ rfl; (with_reducible repeat (first | refine kN ?_ _ | refine kD ?_ | refine kA ?_ _)); exact BK270.out) Try.underlying102 rfl (by kernel_rfl)) rfl ?_
           exact ⟨by first | rfl | (simp [errW_none, errW_some] <;> rfl) | (simp [*, errW_none, errW_some] <;> rfl), by repeat (first | (with_reducible first | exact HB.out | apply bA | apply bN | apply bD | refine bS ?_ GE270.out | refine bS ?_ GE271.out) | exact HB.out)⟩
         ·
          replace c22 := Bool.eq_false_iff.mpr c22
          subst c22
          have H1 : (if t272 = 2 then (pascalineref02_Decode.j4 kj19 a0 t272 (t272 == 2) ((Int.tdiv a0 16777216) % 4294967296) x272001_3 x272002_11 x272003_15 0) else (if t272 = 4 then (pascalineref02_Decode.j4 kj19 a0 t272 (t272 == 4) ((Int.tdiv a0 16777216) % 4294967296) x272001_3 x272002_11 x272003_15 0) else (pascalineref02_Decode.j4 kj19 a0 t272 (t272 == 8) ((Int.tdiv a0 16777216) % 4294967296) x272001_3 x272002_11 x272003_15 0))) = some (r1, r2, r3, r4, r5, r6) := by rw [if_neg (show ¬ (false = true) by decide)] at H; exact H
          clear H
          have H := H1
          clear H1
          have HC43 := mK H
          clear H
          go_upto_if 49 with (fail)
          go_cut [49] (fun v49 wc => ∃ (kq : Nat) (x49_42 : Bool), v49 = .bool x49_42 ∧ Aside0 (pascalineref02_Decode.j4 kq a0 t272 x49_42 ((Int.tdiv a0 16777216) % 4294967296) x272001_3 x272002_11 x272003_15 0 = some (r1, r2, r3, r4, r5, r6)) ∧ Aside0 (kq ≤ kj19) ∧ Aside0 (wc.heap[gb270]? = some (o5 0 0 0 0 0 102)) ∧ Aside0 (wc.heap[gb271]? = some (.cells #[.int .i64 ((Int.tdiv a0 16777216) % 4294967296), .int .i64 x272001_3, .int .i64 x272002_11, .int .i64 x272003_15, .int .i64 0] 102 (0, 0))) ∧ Aside0 (Below w.heap.size w wc))
          case first =>
           have H := HC43.out
           clear HC43
           by_cases c44 : t272 = 2
           ·
            rw [if_pos c44] at H
            have c44b0 : (t272 == 2) = true := beq_iff_eq.mpr c44
            have c44b1 : (t272 != 2) = false := bR c44
            clear c44
            (first | rw [c44b0] | (simp only [i64_w, i32_w]; rw [c44b0]) | skip)
            have H' := mK H
            clear H
            go_wp2
            go_meet
            case rel => exact ⟨_, ((t272 == 2)), (by first | rfl | (simp; done) | (simp [*]; done)), H', ⟨by have := HJ3.out; have := HJ11.out; have := HJ15.out; have := HJ19.out; first | omega | exact Nat.le_refl _⟩, ⟨by (with_reducible repeat (first | refine kN ?_ _ | refine kD ?_ | refine kA ?_ _)); exact BK270.out⟩, ⟨by (with_reducible repeat (first | refine kN ?_ _ | refine kD ?_ | refine kA ?_ _)); exact BK271.out⟩, ⟨by repeat (first | (with_reducible first | exact HB.out | apply bA | apply bN | apply bD | refine bS ?_ GE270.out | refine bS ?_ GE271.out) | exact HB.out)⟩⟩
           ·
            rw [if_neg c44] at H
            have c44b0 : (t272 == 2) = false := bQ c44
            have c44b1 : (t272 != 2) = true := bne_iff_ne.mpr c44
            (first | rw [c44b0] | (simp only [i64_w, i32_w]; rw [c44b0]) | skip)
            by_cases c45 : t272 = 4
            ·
             rw [if_pos c45] at H
             have c45b0 : (t272 == 4) = true := beq_iff_eq.mpr c45
             have c45b1 : (t272 != 4) = false := bR c45
             clear c45
             have H' := mK H
             clear H
             go_wp2
             go_meet
             case rel => exact ⟨_, ((t272 == 4)), (by first | rfl | (simp; done) | (simp [*]; done)), H', ⟨by have := HJ3.out; have := HJ11.out; have := HJ15.out; have := HJ19.out; first | omega | exact Nat.le_refl _⟩, ⟨by (with_reducible repeat (first | refine kN ?_ _ | refine kD ?_ | refine kA ?_ _)); exact BK270.out⟩, ⟨by (with_reducible repeat (first | refine kN ?_ _ | refine kD ?_ | refine kA ?_ _)); exact BK271.out⟩, ⟨by repeat (first | (with_reducible first | exact HB.out | apply bA | apply bN | apply bD | refine bS ?_ GE270.out | refine bS ?_ GE271.out) | exact HB.out)⟩⟩
            ·
             rw [if_neg c45] at H
             have c45b0 : (t272 == 4) = false := bQ c45
             have c45b1 : (t272 != 4) = true := bne_iff_ne.mpr c45
             have H' := mK H
             clear H
             go_wp2
             go_meet
             case rel => exact ⟨_, ((t272 == 8)), (by first | rfl | (simp; done) | (simp [*]; done)), H', ⟨by have := HJ3.out; have := HJ11.out; have := HJ15.out; have := HJ19.out; first | omega | exact Nat.le_refl _⟩, ⟨by (with_reducible repeat (first | refine kN ?_ _ | refine kD ?_ | refine kA ?_ _)); exact BK270.out⟩, ⟨by (with_reducible repeat (first | refine kN ?_ _ | refine kD ?_ | refine kA ?_ _)); exact BK271.out⟩, ⟨by repeat (first | (with_reducible first | exact HB.out | apply bA | apply bN | apply bD | refine bS ?_ GE270.out | refine bS ?_ GE271.out) | exact HB.out)⟩⟩
          case rest =>
           clear HC43
           (try clear c22); (try clear hcz8_0); (try clear hcz8_1); (try clear hcz8_2); (try clear hcz8_3); (try clear hcz8_4); (try clear hfz8_0); (try clear hfz8_1); (try clear hfz8_2); (try clear hfz8_3); (try clear hfz8_4)
           obtain ⟨kq, x49_42, rfl, HA, HJ42, BK270, BK271, HB⟩ := hcut
           cases kq with
           | zero => exact absurd HA.out (by simp [pascalineref02_Decode.j4])
           | succ kj42 =>
            have H := HA.out
            clear HA
            simp only [pascalineref02_Decode.j4] at H
            by_cases c46 : x49_42 = true
            ·
             subst c46
             have H1 : ((pascalineref02_Encode.f kj42 ((Int.tdiv a0 16777216) % 4294967296) x272001_3 x272002_11 x272003_15 (wrap64 (Int.tmod a0 65536))).bind fun bt279 => (if bt279.2 = 0 then (if bt279.1 = a0 then (some (((Int.tdiv a0 16777216) % 4294967296), x272001_3, x272002_11, x272003_15, wrap64 (Int.tmod a0 65536), 0)) else (some (0, 0, 0, 0, 0, 21))) else (some (0, 0, 0, 0, 0, 21)))) = some (r1, r2, r3, r4, r5, r6) := by rw [if_pos rfl] at H; exact H
             clear H
             have H := H1
             clear H1
             replace H := oB H
             obtain ⟨⟨t279, t280⟩, A470, H⟩ := H
             replace H : (if t280 = 0 then (if t279 = a0 then (some (((Int.tdiv a0 16777216) % 4294967296), x272001_3, x272002_11, x272003_15, wrap64 (Int.tmod a0 65536), 0)) else (some (0, 0, 0, 0, 0, 21))) else (some (0, 0, 0, 0, 0, 21))) = some (r1, r2, r3, r4, r5, r6) := H
             have A47 := mK A470
             clear A470
             by_cases c48 : t280 = 0
             ·
              rw [if_pos c48] at H
              have c48b0 : (t280 == 0) = true := beq_iff_eq.mpr c48
              have c48b1 : (t280 != 0) = false := bR c48
              clear c48
              by_cases c49 : t279 = a0
              ·
               rw [if_pos c49] at H
               have c49b0 : (t279 == a0) = true := beq_iff_eq.mpr c49
               have c49b1 : (t279 != a0) = false := bR c49
               clear c49
               simp only [Option.some.injEq, Prod.mk.injEq] at H
               obtain ⟨rfl, rfl, rfl, rfl, rfl, rfl⟩ := H
               have hnb50 := NB271_270.out
               have hnc50 := NB270_271.out
               obtain ⟨hcz51_0, hcz51_1, hcz51_2, hcz51_3, hcz51_4, hfz51_0, hfz51_1, hfz51_2, hfz51_3, hfz51_4⟩ := cf5 BK271.out
               go_wp2_with (first | ((with_reducible refine gate_callee (f := 52) rfl ?_); refine goesL_ (some 65) rfl rfl Try.func52 (by kernel_rfl) rfl #[.agg #[.int .i64 ((Int.tdiv a0 16777216) % 4294967296), .int .i64 x272001_3, .int .i64 x272002_11, .int .i64 x272003_15, .int .i64 (wrap64 (Int.tmod a0 65536))]] rfl (by (try simp only [List.map_toArray, List.map_cons, List.map_nil]); first | done | rfl) ?_; (with_reducible refine (pascalineref02_Encode.calls kj42 ((Int.tdiv a0 16777216) % 4294967296) x272001_3 x272002_11 x272003_15 (wrap64 (Int.tmod a0 65536)) t279 t280 _ A47.out).mono ?_); rintro e w52 ⟨rfl, hb⟩; refine ⟨_, rfl, ?_⟩; have n0_ := mK (kB (g := gb270) (o := o5 0 0 0 0 0 102) (by (with_reducible repeat (first | refine kN ?_ _ | refine kD ?_ | refine kA ?_ _)); refine kR ?_ NB270_271.out _; (with_reducible repeat (first | refine kN ?_ _ | refine kD ?_ | refine kA ?_ _)); exact BK270.out) hb); have n1_ := mK (kB (g := gb271) (o := .cells #[.int .i64 ((Int.tdiv a0 16777216) % 4294967296), .int .i64 x272001_3, .int .i64 x272002_11, .int .i64 x272003_15, .int .i64 (wrap64 (Int.tmod a0 65536))] 102 (0, 0)) (by (with_reducible repeat (first | refine kN ?_ _ | refine kD ?_ | refine kA ?_ _)); refine kP (cs := #[.int .i64 ((Int.tdiv a0 16777216) % 4294967296), .int .i64 x272001_3, .int .i64 x272002_11, .int .i64 x272003_15, .int .i64 0]) ?_ 4 _ rfl; (with_reducible repeat (first | refine kN ?_ _ | refine kD ?_ | refine kA ?_ _)); exact BK271.out) hb); have n2_ := mK (bP (by repeat (first | (with_reducible first | exact HB.out | apply bA | apply bN | apply bD | refine bS ?_ GE270.out | refine bS ?_ GE271.out) | exact HB.out)) hb); clear BK270; clear BK271; clear HB; have BK270 := n0_; have BK271 := n1_; have HB := n2_; clear n0_ n1_ n2_; (try clear hb); obtain ⟨hcz53_0, hcz53_1, hcz53_2, hcz53_3, hcz53_4, hfz53_0, hfz53_1, hfz53_2, hfz53_3, hfz53_4⟩ := cf5 BK271.out; obtain ⟨hcz54_0, hcz54_1, hcz54_2, hcz54_3, hcz54_4, hfz54_0, hfz54_1, hfz54_2, hfz54_3, hfz54_4⟩ := cf5 BK270.out))
               refine bodyPost_ret (results_ct rfl _ _ gb270 102 #[.int .i64 ((Int.tdiv a0 16777216) % 4294967296), .int .i64 x272001_3, .int .i64 x272002_11, .int .i64 x272003_15, .int .i64 (wrap64 (Int.tmod a0 65536))] (0, 0) _ rfl (by (with_reducible repeat (first | refine kN ?_ _ | refine kD ?_ | refine kA ?_ _)); refine kP (cs := #[.int .i64 ((Int.tdiv a0 16777216) % 4294967296), .int .i64 x272001_3, .int .i64 x272002_11, .int .i64 x272003_15, .int .i64 0]) ?_ 4 _ rfl; (with_reducible repeat (first | refine kN ?_ _ | refine kD ?_ | refine kA ?_ _)); refine kP (cs := #[.int .i64 ((Int.tdiv a0 16777216) % 4294967296), .int .i64 x272001_3, .int .i64 x272002_11, .int .i64 0, .int .i64 0]) ?_ 3 _ rfl; (with_reducible repeat (first | refine kN ?_ _ | refine kD ?_ | refine kA ?_ _)); refine kP (cs := #[.int .i64 ((Int.tdiv a0 16777216) % 4294967296), .int .i64 x272001_3, .int .i64 0, .int .i64 0, .int .i64 0]) ?_ 2 _ rfl; (with_reducible repeat (first | refine kN ?_ _ | refine kD ?_ | refine kA ?_ _)); refine kP (cs := #[.int .i64 ((Int.tdiv a0 16777216) % 4294967296), .int .i64 0, .int .i64 0, .int .i64 0, .int .i64 0]) ?_ 1 _ rfl; (with_reducible repeat (first | refine kN ?_ _ | refine kD ?_ | refine kA ?_ _)); refine kP (cs := #[.int .i64 0, .int .i64 0, .int .i64 0, .int .i64 0, .int .i64 0]) ?_ 0 _ rfl; (with_reducible repeat (first | refine kN ?_ _ | refine kD ?_ | refine kA ?_ _)); exact BK270.out) Try.underlying102 rfl (by kernel_rfl)) rfl ?_
               exact ⟨by first | rfl | (simp [errW_none, errW_some] <;> rfl) | (simp [*, errW_none, errW_some] <;> rfl), by repeat (first | (with_reducible first | exact HB.out | apply bA | apply bN | apply bD | refine bS ?_ GE270.out | refine bS ?_ GE271.out) | exact HB.out)⟩
              ·
               rw [if_neg c49] at H
               have c49b0 : (t279 == a0) = false := bQ c49
               have c49b1 : (t279 != a0) = true := bne_iff_ne.mpr c49
               simp only [Option.some.injEq, Prod.mk.injEq] at H
               obtain ⟨rfl, rfl, rfl, rfl, rfl, rfl⟩ := H
               have hnb55 := NB271_270.out
               have hnc55 := NB270_271.out
               obtain ⟨hcz56_0, hcz56_1, hcz56_2, hcz56_3, hcz56_4, hfz56_0, hfz56_1, hfz56_2, hfz56_3, hfz56_4⟩ := cf5 BK271.out
               go_wp2_with (first | ((with_reducible refine gate_callee (f := 52) rfl ?_); refine goesL_ (some 65) rfl rfl Try.func52 (by kernel_rfl) rfl #[.agg #[.int .i64 ((Int.tdiv a0 16777216) % 4294967296), .int .i64 x272001_3, .int .i64 x272002_11, .int .i64 x272003_15, .int .i64 (wrap64 (Int.tmod a0 65536))]] rfl (by (try simp only [List.map_toArray, List.map_cons, List.map_nil]); first | done | rfl) ?_; (with_reducible refine (pascalineref02_Encode.calls kj42 ((Int.tdiv a0 16777216) % 4294967296) x272001_3 x272002_11 x272003_15 (wrap64 (Int.tmod a0 65536)) t279 t280 _ A47.out).mono ?_); rintro e w57 ⟨rfl, hb⟩; refine ⟨_, rfl, ?_⟩; have n0_ := mK (kB (g := gb270) (o := o5 0 0 0 0 0 102) (by (with_reducible repeat (first | refine kN ?_ _ | refine kD ?_ | refine kA ?_ _)); refine kR ?_ NB270_271.out _; (with_reducible repeat (first | refine kN ?_ _ | refine kD ?_ | refine kA ?_ _)); exact BK270.out) hb); have n1_ := mK (kB (g := gb271) (o := .cells #[.int .i64 ((Int.tdiv a0 16777216) % 4294967296), .int .i64 x272001_3, .int .i64 x272002_11, .int .i64 x272003_15, .int .i64 (wrap64 (Int.tmod a0 65536))] 102 (0, 0)) (by (with_reducible repeat (first | refine kN ?_ _ | refine kD ?_ | refine kA ?_ _)); refine kP (cs := #[.int .i64 ((Int.tdiv a0 16777216) % 4294967296), .int .i64 x272001_3, .int .i64 x272002_11, .int .i64 x272003_15, .int .i64 0]) ?_ 4 _ rfl; (with_reducible repeat (first | refine kN ?_ _ | refine kD ?_ | refine kA ?_ _)); exact BK271.out) hb); have n2_ := mK (bP (by repeat (first | (with_reducible first | exact HB.out | apply bA | apply bN | apply bD | refine bS ?_ GE270.out | refine bS ?_ GE271.out) | exact HB.out)) hb); clear BK270; clear BK271; clear HB; have BK270 := n0_; have BK271 := n1_; have HB := n2_; clear n0_ n1_ n2_; (try clear hb); obtain ⟨hcz58_0, hcz58_1, hcz58_2, hcz58_3, hcz58_4, hfz58_0, hfz58_1, hfz58_2, hfz58_3, hfz58_4⟩ := cf5 BK270.out))
               refine bodyPost_ret (results_ct rfl _ _ gb270 102 #[.int .i64 0, .int .i64 0, .int .i64 0, .int .i64 0, .int .i64 0] (0, 0) _ rfl (by (with_reducible repeat (first | refine kN ?_ _ | refine kD ?_ | refine kA ?_ _)); refine kP (cs := #[.int .i64 0, .int .i64 0, .int .i64 0, .int .i64 0, .int .i64 0]) ?_ 4 _ rfl; (with_reducible repeat (first | refine kN ?_ _ | refine kD ?_ | refine kA ?_ _)); refine kP (cs := #[.int .i64 0, .int .i64 0, .int .i64 0, .int .i64 0, .int .i64 0]) ?_ 3 _ rfl; (with_reducible repeat (first | refine kN ?_ _ | refine kD ?_ | refine kA ?_ _)); refine kP (cs := #[.int .i64 0, .int .i64 0, .int .i64 0, .int .i64 0, .int .i64 0]) ?_ 2 _ rfl; (with_reducible repeat (first | refine kN ?_ _ | refine kD ?_ | refine kA ?_ _)); refine kP (cs := #[.int .i64 0, .int .i64 0, .int .i64 0, .int .i64 0, .int .i64 0]) ?_ 1 _ rfl; (with_reducible repeat (first | refine kN ?_ _ | refine kD ?_ | refine kA ?_ _)); refine kP (cs := #[.int .i64 0, .int .i64 0, .int .i64 0, .int .i64 0, .int .i64 0]) ?_ 0 _ rfl; (with_reducible repeat (first | refine kN ?_ _ | refine kD ?_ | refine kA ?_ _)); exact BK270.out) Try.underlying102 rfl (by kernel_rfl)) rfl ?_
               exact ⟨by first | rfl | (simp [errW_none, errW_some] <;> rfl) | (simp [*, errW_none, errW_some] <;> rfl), by repeat (first | (with_reducible first | exact HB.out | apply bA | apply bN | apply bD | refine bS ?_ GE270.out | refine bS ?_ GE271.out) | exact HB.out)⟩
             ·
              rw [if_neg c48] at H
              have c48b0 : (t280 == 0) = false := bQ c48
              have c48b1 : (t280 != 0) = true := bne_iff_ne.mpr c48
              simp only [Option.some.injEq, Prod.mk.injEq] at H
              obtain ⟨rfl, rfl, rfl, rfl, rfl, rfl⟩ := H
              have hnb59 := NB271_270.out
              have hnc59 := NB270_271.out
              obtain ⟨hcz60_0, hcz60_1, hcz60_2, hcz60_3, hcz60_4, hfz60_0, hfz60_1, hfz60_2, hfz60_3, hfz60_4⟩ := cf5 BK271.out
              go_wp2_with (first | ((with_reducible refine gate_callee (f := 52) rfl ?_); refine goesL_ (some 65) rfl rfl Try.func52 (by kernel_rfl) rfl #[.agg #[.int .i64 ((Int.tdiv a0 16777216) % 4294967296), .int .i64 x272001_3, .int .i64 x272002_11, .int .i64 x272003_15, .int .i64 (wrap64 (Int.tmod a0 65536))]] rfl (by (try simp only [List.map_toArray, List.map_cons, List.map_nil]); first | done | rfl) ?_; (with_reducible refine (pascalineref02_Encode.calls kj42 ((Int.tdiv a0 16777216) % 4294967296) x272001_3 x272002_11 x272003_15 (wrap64 (Int.tmod a0 65536)) t279 t280 _ A47.out).mono ?_); rintro e w61 ⟨rfl, hb⟩; refine ⟨_, rfl, ?_⟩; have n0_ := mK (kB (g := gb270) (o := o5 0 0 0 0 0 102) (by (with_reducible repeat (first | refine kN ?_ _ | refine kD ?_ | refine kA ?_ _)); refine kR ?_ NB270_271.out _; (with_reducible repeat (first | refine kN ?_ _ | refine kD ?_ | refine kA ?_ _)); exact BK270.out) hb); have n1_ := mK (kB (g := gb271) (o := .cells #[.int .i64 ((Int.tdiv a0 16777216) % 4294967296), .int .i64 x272001_3, .int .i64 x272002_11, .int .i64 x272003_15, .int .i64 (wrap64 (Int.tmod a0 65536))] 102 (0, 0)) (by (with_reducible repeat (first | refine kN ?_ _ | refine kD ?_ | refine kA ?_ _)); refine kP (cs := #[.int .i64 ((Int.tdiv a0 16777216) % 4294967296), .int .i64 x272001_3, .int .i64 x272002_11, .int .i64 x272003_15, .int .i64 0]) ?_ 4 _ rfl; (with_reducible repeat (first | refine kN ?_ _ | refine kD ?_ | refine kA ?_ _)); exact BK271.out) hb); have n2_ := mK (bP (by repeat (first | (with_reducible first | exact HB.out | apply bA | apply bN | apply bD | refine bS ?_ GE270.out | refine bS ?_ GE271.out) | exact HB.out)) hb); clear BK270; clear BK271; clear HB; have BK270 := n0_; have BK271 := n1_; have HB := n2_; clear n0_ n1_ n2_; (try clear hb); obtain ⟨hcz62_0, hcz62_1, hcz62_2, hcz62_3, hcz62_4, hfz62_0, hfz62_1, hfz62_2, hfz62_3, hfz62_4⟩ := cf5 BK270.out))
              refine bodyPost_ret (results_ct rfl _ _ gb270 102 #[.int .i64 0, .int .i64 0, .int .i64 0, .int .i64 0, .int .i64 0] (0, 0) _ rfl (by (with_reducible repeat (first | refine kN ?_ _ | refine kD ?_ | refine kA ?_ _)); refine kP (cs := #[.int .i64 0, .int .i64 0, .int .i64 0, .int .i64 0, .int .i64 0]) ?_ 4 _ rfl; (with_reducible repeat (first | refine kN ?_ _ | refine kD ?_ | refine kA ?_ _)); refine kP (cs := #[.int .i64 0, .int .i64 0, .int .i64 0, .int .i64 0, .int .i64 0]) ?_ 3 _ rfl; (with_reducible repeat (first | refine kN ?_ _ | refine kD ?_ | refine kA ?_ _)); refine kP (cs := #[.int .i64 0, .int .i64 0, .int .i64 0, .int .i64 0, .int .i64 0]) ?_ 2 _ rfl; (with_reducible repeat (first | refine kN ?_ _ | refine kD ?_ | refine kA ?_ _)); refine kP (cs := #[.int .i64 0, .int .i64 0, .int .i64 0, .int .i64 0, .int .i64 0]) ?_ 1 _ rfl; (with_reducible repeat (first | refine kN ?_ _ | refine kD ?_ | refine kA ?_ _)); refine kP (cs := #[.int .i64 0, .int .i64 0, .int .i64 0, .int .i64 0, .int .i64 0]) ?_ 0 _ rfl; (with_reducible repeat (first | refine kN ?_ _ | refine kD ?_ | refine kA ?_ _)); exact BK270.out) Try.underlying102 rfl (by kernel_rfl)) rfl ?_
              exact ⟨by first | rfl | (simp [errW_none, errW_some] <;> rfl) | (simp [*, errW_none, errW_some] <;> rfl), by repeat (first | (with_reducible first | exact HB.out | apply bA | apply bN | apply bD | refine bS ?_ GE270.out | refine bS ?_ GE271.out) | exact HB.out)⟩
            ·
             replace c46 := Bool.eq_false_iff.mpr c46
             subst c46
             have H1 : (if t272 = 7 then ((pascalineref01_Sext.f kj42 a0 24).bind fun t281 => ((pascalineref02_Encode.f kj42 ((Int.tdiv a0 16777216) % 4294967296) x272001_3 x272002_11 x272003_15 (wrap64 (t281))).bind fun bt282 => (if bt282.2 = 0 then (if bt282.1 = a0 then (some (((Int.tdiv a0 16777216) % 4294967296), x272001_3, x272002_11, x272003_15, wrap64 (t281), 0)) else (some (0, 0, 0, 0, 0, 21))) else (some (0, 0, 0, 0, 0, 21))))) else ((pascalineref02_Encode.f kj42 ((Int.tdiv a0 16777216) % 4294967296) x272001_3 x272002_11 x272003_15 0).bind fun bt284 => (if bt284.2 = 0 then (if bt284.1 = a0 then (some (((Int.tdiv a0 16777216) % 4294967296), x272001_3, x272002_11, x272003_15, 0, 0)) else (some (0, 0, 0, 0, 0, 21))) else (some (0, 0, 0, 0, 0, 21))))) = some (r1, r2, r3, r4, r5, r6) := by rw [if_neg (show ¬ (false = true) by decide)] at H; exact H
             clear H
             have H := H1
             clear H1
             by_cases c63 : t272 = 7
             ·
              rw [if_pos c63] at H
              have c63b0 : (t272 == 7) = true := beq_iff_eq.mpr c63
              have c63b1 : (t272 != 7) = false := bR c63
              clear c63
              replace H := oB H
              obtain ⟨t281, A640, H⟩ := H
              replace H : ((pascalineref02_Encode.f kj42 ((Int.tdiv a0 16777216) % 4294967296) x272001_3 x272002_11 x272003_15 (wrap64 (t281))).bind fun bt282 => (if bt282.2 = 0 then (if bt282.1 = a0 then (some (((Int.tdiv a0 16777216) % 4294967296), x272001_3, x272002_11, x272003_15, wrap64 (t281), 0)) else (some (0, 0, 0, 0, 0, 21))) else (some (0, 0, 0, 0, 0, 21)))) = some (r1, r2, r3, r4, r5, r6) := H
              have A64 := mK A640
              clear A640
              replace H := oB H
              obtain ⟨⟨t282, t283⟩, A650, H⟩ := H
              replace H : (if t283 = 0 then (if t282 = a0 then (some (((Int.tdiv a0 16777216) % 4294967296), x272001_3, x272002_11, x272003_15, wrap64 (t281), 0)) else (some (0, 0, 0, 0, 0, 21))) else (some (0, 0, 0, 0, 0, 21))) = some (r1, r2, r3, r4, r5, r6) := H
              have A65 := mK A650
              clear A650
              by_cases c66 : t283 = 0
              ·
               rw [if_pos c66] at H
               have c66b0 : (t283 == 0) = true := beq_iff_eq.mpr c66
               have c66b1 : (t283 != 0) = false := bR c66
               clear c66
               by_cases c67 : t282 = a0
               ·
                rw [if_pos c67] at H
                have c67b0 : (t282 == a0) = true := beq_iff_eq.mpr c67
                have c67b1 : (t282 != a0) = false := bR c67
                clear c67
                simp only [Option.some.injEq, Prod.mk.injEq] at H
                obtain ⟨rfl, rfl, rfl, rfl, rfl, rfl⟩ := H
                go_wp2_with (first | ((with_reducible refine gate_callee (f := 51) rfl ?_); refine goesL_ (some 60) rfl rfl Try.func51 (by kernel_rfl) rfl #[.int .u32 a0, .int .i64 24] rfl (by (try simp only [List.map_toArray, List.map_cons, List.map_nil]); first | done | rfl) ?_; (with_reducible refine (pascalineref01_Sext.calls kj42 a0 24 t281 _ A64.out).mono ?_); rintro e w68 ⟨rfl, hb⟩; refine ⟨_, rfl, ?_⟩; have n0_ := mK (kB (g := gb270) (o := o5 0 0 0 0 0 102) (by (with_reducible repeat (first | refine kN ?_ _ | refine kD ?_ | refine kA ?_ _)); exact BK270.out) hb); have n1_ := mK (kB (g := gb271) (o := .cells #[.int .i64 ((Int.tdiv a0 16777216) % 4294967296), .int .i64 x272001_3, .int .i64 x272002_11, .int .i64 x272003_15, .int .i64 0] 102 (0, 0)) (by (with_reducible repeat (first | refine kN ?_ _ | refine kD ?_ | refine kA ?_ _)); exact BK271.out) hb); have n2_ := mK (bP (by repeat (first | (with_reducible first | exact HB.out | apply bA | apply bN | apply bD | refine bS ?_ GE270.out | refine bS ?_ GE271.out) | exact HB.out)) hb); clear BK270; clear BK271; clear HB; have BK270 := n0_; have BK271 := n1_; have HB := n2_; clear n0_ n1_ n2_; (try clear hb); have hnb69 := NB271_270.out; have hnc69 := NB270_271.out; obtain ⟨hcz70_0, hcz70_1, hcz70_2, hcz70_3, hcz70_4, hfz70_0, hfz70_1, hfz70_2, hfz70_3, hfz70_4⟩ := cf5 BK271.out) | ((with_reducible refine gate_callee (f := 52) rfl ?_); refine goesL_ (some 65) rfl rfl Try.func52 (by kernel_rfl) rfl #[.agg #[.int .i64 ((Int.tdiv a0 16777216) % 4294967296), .int .i64 x272001_3, .int .i64 x272002_11, .int .i64 x272003_15, .int .i64 (wrap64 (t281))]] rfl (by (try simp only [List.map_toArray, List.map_cons, List.map_nil]); first | done | rfl) ?_; (with_reducible refine (pascalineref02_Encode.calls kj42 ((Int.tdiv a0 16777216) % 4294967296) x272001_3 x272002_11 x272003_15 (wrap64 (t281)) t282 t283 _ A65.out).mono ?_); rintro e w71 ⟨rfl, hb⟩; refine ⟨_, rfl, ?_⟩; have n0_ := mK (kB (g := gb270) (o := o5 0 0 0 0 0 102) (by (with_reducible repeat (first | refine kN ?_ _ | refine kD ?_ | refine kA ?_ _)); refine kR ?_ NB270_271.out _; (with_reducible repeat (first | refine kN ?_ _ | refine kD ?_ | refine kA ?_ _)); exact BK270.out) hb); have n1_ := mK (kB (g := gb271) (o := .cells #[.int .i64 ((Int.tdiv a0 16777216) % 4294967296), .int .i64 x272001_3, .int .i64 x272002_11, .int .i64 x272003_15, .int .i64 (wrap64 (t281))] 102 (0, 0)) (by (with_reducible repeat (first | refine kN ?_ _ | refine kD ?_ | refine kA ?_ _)); refine kP (cs := #[.int .i64 ((Int.tdiv a0 16777216) % 4294967296), .int .i64 x272001_3, .int .i64 x272002_11, .int .i64 x272003_15, .int .i64 0]) ?_ 4 _ rfl; (with_reducible repeat (first | refine kN ?_ _ | refine kD ?_ | refine kA ?_ _)); exact BK271.out) hb); have n2_ := mK (bP (by repeat (first | (with_reducible first | exact HB.out | apply bA | apply bN | apply bD | refine bS ?_ GE270.out | refine bS ?_ GE271.out) | exact HB.out)) hb); clear BK270; clear BK271; clear HB; have BK270 := n0_; have BK271 := n1_; have HB := n2_; clear n0_ n1_ n2_; (try clear hb); obtain ⟨hcz72_0, hcz72_1, hcz72_2, hcz72_3, hcz72_4, hfz72_0, hfz72_1, hfz72_2, hfz72_3, hfz72_4⟩ := cf5 BK271.out; obtain ⟨hcz73_0, hcz73_1, hcz73_2, hcz73_3, hcz73_4, hfz73_0, hfz73_1, hfz73_2, hfz73_3, hfz73_4⟩ := cf5 BK270.out))
                refine bodyPost_ret (results_ct rfl _ _ gb270 102 #[.int .i64 ((Int.tdiv a0 16777216) % 4294967296), .int .i64 x272001_3, .int .i64 x272002_11, .int .i64 x272003_15, .int .i64 (wrap64 (t281))] (0, 0) _ rfl (by (with_reducible repeat (first | refine kN ?_ _ | refine kD ?_ | refine kA ?_ _)); refine kP (cs := #[.int .i64 ((Int.tdiv a0 16777216) % 4294967296), .int .i64 x272001_3, .int .i64 x272002_11, .int .i64 x272003_15, .int .i64 0]) ?_ 4 _ rfl; (with_reducible repeat (first | refine kN ?_ _ | refine kD ?_ | refine kA ?_ _)); refine kP (cs := #[.int .i64 ((Int.tdiv a0 16777216) % 4294967296), .int .i64 x272001_3, .int .i64 x272002_11, .int .i64 0, .int .i64 0]) ?_ 3 _ rfl; (with_reducible repeat (first | refine kN ?_ _ | refine kD ?_ | refine kA ?_ _)); refine kP (cs := #[.int .i64 ((Int.tdiv a0 16777216) % 4294967296), .int .i64 x272001_3, .int .i64 0, .int .i64 0, .int .i64 0]) ?_ 2 _ rfl; (with_reducible repeat (first | refine kN ?_ _ | refine kD ?_ | refine kA ?_ _)); refine kP (cs := #[.int .i64 ((Int.tdiv a0 16777216) % 4294967296), .int .i64 0, .int .i64 0, .int .i64 0, .int .i64 0]) ?_ 1 _ rfl; (with_reducible repeat (first | refine kN ?_ _ | refine kD ?_ | refine kA ?_ _)); refine kP (cs := #[.int .i64 0, .int .i64 0, .int .i64 0, .int .i64 0, .int .i64 0]) ?_ 0 _ rfl; (with_reducible repeat (first | refine kN ?_ _ | refine kD ?_ | refine kA ?_ _)); exact BK270.out) Try.underlying102 rfl (by kernel_rfl)) rfl ?_
                exact ⟨by first | rfl | (simp [errW_none, errW_some] <;> rfl) | (simp [*, errW_none, errW_some] <;> rfl), by repeat (first | (with_reducible first | exact HB.out | apply bA | apply bN | apply bD | refine bS ?_ GE270.out | refine bS ?_ GE271.out) | exact HB.out)⟩
               ·
                rw [if_neg c67] at H
                have c67b0 : (t282 == a0) = false := bQ c67
                have c67b1 : (t282 != a0) = true := bne_iff_ne.mpr c67
                simp only [Option.some.injEq, Prod.mk.injEq] at H
                obtain ⟨rfl, rfl, rfl, rfl, rfl, rfl⟩ := H
                go_wp2_with (first | ((with_reducible refine gate_callee (f := 51) rfl ?_); refine goesL_ (some 60) rfl rfl Try.func51 (by kernel_rfl) rfl #[.int .u32 a0, .int .i64 24] rfl (by (try simp only [List.map_toArray, List.map_cons, List.map_nil]); first | done | rfl) ?_; (with_reducible refine (pascalineref01_Sext.calls kj42 a0 24 t281 _ A64.out).mono ?_); rintro e w74 ⟨rfl, hb⟩; refine ⟨_, rfl, ?_⟩; have n0_ := mK (kB (g := gb270) (o := o5 0 0 0 0 0 102) (by (with_reducible repeat (first | refine kN ?_ _ | refine kD ?_ | refine kA ?_ _)); exact BK270.out) hb); have n1_ := mK (kB (g := gb271) (o := .cells #[.int .i64 ((Int.tdiv a0 16777216) % 4294967296), .int .i64 x272001_3, .int .i64 x272002_11, .int .i64 x272003_15, .int .i64 0] 102 (0, 0)) (by (with_reducible repeat (first | refine kN ?_ _ | refine kD ?_ | refine kA ?_ _)); exact BK271.out) hb); have n2_ := mK (bP (by repeat (first | (with_reducible first | exact HB.out | apply bA | apply bN | apply bD | refine bS ?_ GE270.out | refine bS ?_ GE271.out) | exact HB.out)) hb); clear BK270; clear BK271; clear HB; have BK270 := n0_; have BK271 := n1_; have HB := n2_; clear n0_ n1_ n2_; (try clear hb); have hnb75 := NB271_270.out; have hnc75 := NB270_271.out; obtain ⟨hcz76_0, hcz76_1, hcz76_2, hcz76_3, hcz76_4, hfz76_0, hfz76_1, hfz76_2, hfz76_3, hfz76_4⟩ := cf5 BK271.out) | ((with_reducible refine gate_callee (f := 52) rfl ?_); refine goesL_ (some 65) rfl rfl Try.func52 (by kernel_rfl) rfl #[.agg #[.int .i64 ((Int.tdiv a0 16777216) % 4294967296), .int .i64 x272001_3, .int .i64 x272002_11, .int .i64 x272003_15, .int .i64 (wrap64 (t281))]] rfl (by (try simp only [List.map_toArray, List.map_cons, List.map_nil]); first | done | rfl) ?_; (with_reducible refine (pascalineref02_Encode.calls kj42 ((Int.tdiv a0 16777216) % 4294967296) x272001_3 x272002_11 x272003_15 (wrap64 (t281)) t282 t283 _ A65.out).mono ?_); rintro e w77 ⟨rfl, hb⟩; refine ⟨_, rfl, ?_⟩; have n0_ := mK (kB (g := gb270) (o := o5 0 0 0 0 0 102) (by (with_reducible repeat (first | refine kN ?_ _ | refine kD ?_ | refine kA ?_ _)); refine kR ?_ NB270_271.out _; (with_reducible repeat (first | refine kN ?_ _ | refine kD ?_ | refine kA ?_ _)); exact BK270.out) hb); have n1_ := mK (kB (g := gb271) (o := .cells #[.int .i64 ((Int.tdiv a0 16777216) % 4294967296), .int .i64 x272001_3, .int .i64 x272002_11, .int .i64 x272003_15, .int .i64 (wrap64 (t281))] 102 (0, 0)) (by (with_reducible repeat (first | refine kN ?_ _ | refine kD ?_ | refine kA ?_ _)); refine kP (cs := #[.int .i64 ((Int.tdiv a0 16777216) % 4294967296), .int .i64 x272001_3, .int .i64 x272002_11, .int .i64 x272003_15, .int .i64 0]) ?_ 4 _ rfl; (with_reducible repeat (first | refine kN ?_ _ | refine kD ?_ | refine kA ?_ _)); exact BK271.out) hb); have n2_ := mK (bP (by repeat (first | (with_reducible first | exact HB.out | apply bA | apply bN | apply bD | refine bS ?_ GE270.out | refine bS ?_ GE271.out) | exact HB.out)) hb); clear BK270; clear BK271; clear HB; have BK270 := n0_; have BK271 := n1_; have HB := n2_; clear n0_ n1_ n2_; (try clear hb); obtain ⟨hcz78_0, hcz78_1, hcz78_2, hcz78_3, hcz78_4, hfz78_0, hfz78_1, hfz78_2, hfz78_3, hfz78_4⟩ := cf5 BK270.out))
                refine bodyPost_ret (results_ct rfl _ _ gb270 102 #[.int .i64 0, .int .i64 0, .int .i64 0, .int .i64 0, .int .i64 0] (0, 0) _ rfl (by (with_reducible repeat (first | refine kN ?_ _ | refine kD ?_ | refine kA ?_ _)); refine kP (cs := #[.int .i64 0, .int .i64 0, .int .i64 0, .int .i64 0, .int .i64 0]) ?_ 4 _ rfl; (with_reducible repeat (first | refine kN ?_ _ | refine kD ?_ | refine kA ?_ _)); refine kP (cs := #[.int .i64 0, .int .i64 0, .int .i64 0, .int .i64 0, .int .i64 0]) ?_ 3 _ rfl; (with_reducible repeat (first | refine kN ?_ _ | refine kD ?_ | refine kA ?_ _)); refine kP (cs := #[.int .i64 0, .int .i64 0, .int .i64 0, .int .i64 0, .int .i64 0]) ?_ 2 _ rfl; (with_reducible repeat (first | refine kN ?_ _ | refine kD ?_ | refine kA ?_ _)); refine kP (cs := #[.int .i64 0, .int .i64 0, .int .i64 0, .int .i64 0, .int .i64 0]) ?_ 1 _ rfl; (with_reducible repeat (first | refine kN ?_ _ | refine kD ?_ | refine kA ?_ _)); refine kP (cs := #[.int .i64 0, .int .i64 0, .int .i64 0, .int .i64 0, .int .i64 0]) ?_ 0 _ rfl; (with_reducible repeat (first | refine kN ?_ _ | refine kD ?_ | refine kA ?_ _)); exact BK270.out) Try.underlying102 rfl (by kernel_rfl)) rfl ?_
                exact ⟨by first | rfl | (simp [errW_none, errW_some] <;> rfl) | (simp [*, errW_none, errW_some] <;> rfl), by repeat (first | (with_reducible first | exact HB.out | apply bA | apply bN | apply bD | refine bS ?_ GE270.out | refine bS ?_ GE271.out) | exact HB.out)⟩
              ·
               rw [if_neg c66] at H
               have c66b0 : (t283 == 0) = false := bQ c66
               have c66b1 : (t283 != 0) = true := bne_iff_ne.mpr c66
               simp only [Option.some.injEq, Prod.mk.injEq] at H
               obtain ⟨rfl, rfl, rfl, rfl, rfl, rfl⟩ := H
               go_wp2_with (first | ((with_reducible refine gate_callee (f := 51) rfl ?_); refine goesL_ (some 60) rfl rfl Try.func51 (by kernel_rfl) rfl #[.int .u32 a0, .int .i64 24] rfl (by (try simp only [List.map_toArray, List.map_cons, List.map_nil]); first | done | rfl) ?_; (with_reducible refine (pascalineref01_Sext.calls kj42 a0 24 t281 _ A64.out).mono ?_); rintro e w79 ⟨rfl, hb⟩; refine ⟨_, rfl, ?_⟩; have n0_ := mK (kB (g := gb270) (o := o5 0 0 0 0 0 102) (by (with_reducible repeat (first | refine kN ?_ _ | refine kD ?_ | refine kA ?_ _)); exact BK270.out) hb); have n1_ := mK (kB (g := gb271) (o := .cells #[.int .i64 ((Int.tdiv a0 16777216) % 4294967296), .int .i64 x272001_3, .int .i64 x272002_11, .int .i64 x272003_15, .int .i64 0] 102 (0, 0)) (by (with_reducible repeat (first | refine kN ?_ _ | refine kD ?_ | refine kA ?_ _)); exact BK271.out) hb); have n2_ := mK (bP (by repeat (first | (with_reducible first | exact HB.out | apply bA | apply bN | apply bD | refine bS ?_ GE270.out | refine bS ?_ GE271.out) | exact HB.out)) hb); clear BK270; clear BK271; clear HB; have BK270 := n0_; have BK271 := n1_; have HB := n2_; clear n0_ n1_ n2_; (try clear hb); have hnb80 := NB271_270.out; have hnc80 := NB270_271.out; obtain ⟨hcz81_0, hcz81_1, hcz81_2, hcz81_3, hcz81_4, hfz81_0, hfz81_1, hfz81_2, hfz81_3, hfz81_4⟩ := cf5 BK271.out) | ((with_reducible refine gate_callee (f := 52) rfl ?_); refine goesL_ (some 65) rfl rfl Try.func52 (by kernel_rfl) rfl #[.agg #[.int .i64 ((Int.tdiv a0 16777216) % 4294967296), .int .i64 x272001_3, .int .i64 x272002_11, .int .i64 x272003_15, .int .i64 (wrap64 (t281))]] rfl (by (try simp only [List.map_toArray, List.map_cons, List.map_nil]); first | done | rfl) ?_; (with_reducible refine (pascalineref02_Encode.calls kj42 ((Int.tdiv a0 16777216) % 4294967296) x272001_3 x272002_11 x272003_15 (wrap64 (t281)) t282 t283 _ A65.out).mono ?_); rintro e w82 ⟨rfl, hb⟩; refine ⟨_, rfl, ?_⟩; have n0_ := mK (kB (g := gb270) (o := o5 0 0 0 0 0 102) (by (with_reducible repeat (first | refine kN ?_ _ | refine kD ?_ | refine kA ?_ _)); refine kR ?_ NB270_271.out _; (with_reducible repeat (first | refine kN ?_ _ | refine kD ?_ | refine kA ?_ _)); exact BK270.out) hb); have n1_ := mK (kB (g := gb271) (o := .cells #[.int .i64 ((Int.tdiv a0 16777216) % 4294967296), .int .i64 x272001_3, .int .i64 x272002_11, .int .i64 x272003_15, .int .i64 (wrap64 (t281))] 102 (0, 0)) (by (with_reducible repeat (first | refine kN ?_ _ | refine kD ?_ | refine kA ?_ _)); refine kP (cs := #[.int .i64 ((Int.tdiv a0 16777216) % 4294967296), .int .i64 x272001_3, .int .i64 x272002_11, .int .i64 x272003_15, .int .i64 0]) ?_ 4 _ rfl; (with_reducible repeat (first | refine kN ?_ _ | refine kD ?_ | refine kA ?_ _)); exact BK271.out) hb); have n2_ := mK (bP (by repeat (first | (with_reducible first | exact HB.out | apply bA | apply bN | apply bD | refine bS ?_ GE270.out | refine bS ?_ GE271.out) | exact HB.out)) hb); clear BK270; clear BK271; clear HB; have BK270 := n0_; have BK271 := n1_; have HB := n2_; clear n0_ n1_ n2_; (try clear hb); obtain ⟨hcz83_0, hcz83_1, hcz83_2, hcz83_3, hcz83_4, hfz83_0, hfz83_1, hfz83_2, hfz83_3, hfz83_4⟩ := cf5 BK270.out))
               refine bodyPost_ret (results_ct rfl _ _ gb270 102 #[.int .i64 0, .int .i64 0, .int .i64 0, .int .i64 0, .int .i64 0] (0, 0) _ rfl (by (with_reducible repeat (first | refine kN ?_ _ | refine kD ?_ | refine kA ?_ _)); refine kP (cs := #[.int .i64 0, .int .i64 0, .int .i64 0, .int .i64 0, .int .i64 0]) ?_ 4 _ rfl; (with_reducible repeat (first | refine kN ?_ _ | refine kD ?_ | refine kA ?_ _)); refine kP (cs := #[.int .i64 0, .int .i64 0, .int .i64 0, .int .i64 0, .int .i64 0]) ?_ 3 _ rfl; (with_reducible repeat (first | refine kN ?_ _ | refine kD ?_ | refine kA ?_ _)); refine kP (cs := #[.int .i64 0, .int .i64 0, .int .i64 0, .int .i64 0, .int .i64 0]) ?_ 2 _ rfl; (with_reducible repeat (first | refine kN ?_ _ | refine kD ?_ | refine kA ?_ _)); refine kP (cs := #[.int .i64 0, .int .i64 0, .int .i64 0, .int .i64 0, .int .i64 0]) ?_ 1 _ rfl; (with_reducible repeat (first | refine kN ?_ _ | refine kD ?_ | refine kA ?_ _)); refine kP (cs := #[.int .i64 0, .int .i64 0, .int .i64 0, .int .i64 0, .int .i64 0]) ?_ 0 _ rfl; (with_reducible repeat (first | refine kN ?_ _ | refine kD ?_ | refine kA ?_ _)); exact BK270.out) Try.underlying102 rfl (by kernel_rfl)) rfl ?_
               exact ⟨by first | rfl | (simp [errW_none, errW_some] <;> rfl) | (simp [*, errW_none, errW_some] <;> rfl), by repeat (first | (with_reducible first | exact HB.out | apply bA | apply bN | apply bD | refine bS ?_ GE270.out | refine bS ?_ GE271.out) | exact HB.out)⟩
             ·
              rw [if_neg c63] at H
              have c63b0 : (t272 == 7) = false := bQ c63
              have c63b1 : (t272 != 7) = true := bne_iff_ne.mpr c63
              replace H := oB H
              obtain ⟨⟨t284, t285⟩, A840, H⟩ := H
              replace H : (if t285 = 0 then (if t284 = a0 then (some (((Int.tdiv a0 16777216) % 4294967296), x272001_3, x272002_11, x272003_15, 0, 0)) else (some (0, 0, 0, 0, 0, 21))) else (some (0, 0, 0, 0, 0, 21))) = some (r1, r2, r3, r4, r5, r6) := H
              have A84 := mK A840
              clear A840
              by_cases c85 : t285 = 0
              ·
               rw [if_pos c85] at H
               have c85b0 : (t285 == 0) = true := beq_iff_eq.mpr c85
               have c85b1 : (t285 != 0) = false := bR c85
               clear c85
               by_cases c86 : t284 = a0
               ·
                rw [if_pos c86] at H
                have c86b0 : (t284 == a0) = true := beq_iff_eq.mpr c86
                have c86b1 : (t284 != a0) = false := bR c86
                clear c86
                simp only [Option.some.injEq, Prod.mk.injEq] at H
                obtain ⟨rfl, rfl, rfl, rfl, rfl, rfl⟩ := H
                have hnb87 := NB271_270.out
                have hnc87 := NB270_271.out
                obtain ⟨hcz88_0, hcz88_1, hcz88_2, hcz88_3, hcz88_4, hfz88_0, hfz88_1, hfz88_2, hfz88_3, hfz88_4⟩ := cf5 BK271.out
                go_wp2_with (first | ((with_reducible refine gate_callee (f := 52) rfl ?_); refine goesL_ (some 65) rfl rfl Try.func52 (by kernel_rfl) rfl #[.agg #[.int .i64 ((Int.tdiv a0 16777216) % 4294967296), .int .i64 x272001_3, .int .i64 x272002_11, .int .i64 x272003_15, .int .i64 0]] rfl (by (try simp only [List.map_toArray, List.map_cons, List.map_nil]); first | done | rfl) ?_; (with_reducible refine (pascalineref02_Encode.calls kj42 ((Int.tdiv a0 16777216) % 4294967296) x272001_3 x272002_11 x272003_15 0 t284 t285 _ A84.out).mono ?_); rintro e w89 ⟨rfl, hb⟩; refine ⟨_, rfl, ?_⟩; have n0_ := mK (kB (g := gb270) (o := o5 0 0 0 0 0 102) (by (with_reducible repeat (first | refine kN ?_ _ | refine kD ?_ | refine kA ?_ _)); exact BK270.out) hb); have n1_ := mK (kB (g := gb271) (o := .cells #[.int .i64 ((Int.tdiv a0 16777216) % 4294967296), .int .i64 x272001_3, .int .i64 x272002_11, .int .i64 x272003_15, .int .i64 0] 102 (0, 0)) (by (with_reducible repeat (first | refine kN ?_ _ | refine kD ?_ | refine kA ?_ _)); exact BK271.out) hb); have n2_ := mK (bP (by repeat (first | (with_reducible first | exact HB.out | apply bA | apply bN | apply bD | refine bS ?_ GE270.out | refine bS ?_ GE271.out) | exact HB.out)) hb); clear BK270; clear BK271; clear HB; have BK270 := n0_; have BK271 := n1_; have HB := n2_; clear n0_ n1_ n2_; (try clear hb); obtain ⟨hcz90_0, hcz90_1, hcz90_2, hcz90_3, hcz90_4, hfz90_0, hfz90_1, hfz90_2, hfz90_3, hfz90_4⟩ := cf5 BK271.out; obtain ⟨hcz91_0, hcz91_1, hcz91_2, hcz91_3, hcz91_4, hfz91_0, hfz91_1, hfz91_2, hfz91_3, hfz91_4⟩ := cf5 BK270.out))
                refine bodyPost_ret (results_ct rfl _ _ gb270 102 #[.int .i64 ((Int.tdiv a0 16777216) % 4294967296), .int .i64 x272001_3, .int .i64 x272002_11, .int .i64 x272003_15, .int .i64 0] (0, 0) _ rfl (by (with_reducible repeat (first | refine kN ?_ _ | refine kD ?_ | refine kA ?_ _)); refine kP (cs := #[.int .i64 ((Int.tdiv a0 16777216) % 4294967296), .int .i64 x272001_3, .int .i64 x272002_11, .int .i64 x272003_15, .int .i64 0]) ?_ 4 _ rfl; (with_reducible repeat (first | refine kN ?_ _ | refine kD ?_ | refine kA ?_ _)); refine kP (cs := #[.int .i64 ((Int.tdiv a0 16777216) % 4294967296), .int .i64 x272001_3, .int .i64 x272002_11, .int .i64 0, .int .i64 0]) ?_ 3 _ rfl; (with_reducible repeat (first | refine kN ?_ _ | refine kD ?_ | refine kA ?_ _)); refine kP (cs := #[.int .i64 ((Int.tdiv a0 16777216) % 4294967296), .int .i64 x272001_3, .int .i64 0, .int .i64 0, .int .i64 0]) ?_ 2 _ rfl; (with_reducible repeat (first | refine kN ?_ _ | refine kD ?_ | refine kA ?_ _)); refine kP (cs := #[.int .i64 ((Int.tdiv a0 16777216) % 4294967296), .int .i64 0, .int .i64 0, .int .i64 0, .int .i64 0]) ?_ 1 _ rfl; (with_reducible repeat (first | refine kN ?_ _ | refine kD ?_ | refine kA ?_ _)); refine kP (cs := #[.int .i64 0, .int .i64 0, .int .i64 0, .int .i64 0, .int .i64 0]) ?_ 0 _ rfl; (with_reducible repeat (first | refine kN ?_ _ | refine kD ?_ | refine kA ?_ _)); exact BK270.out) Try.underlying102 rfl (by kernel_rfl)) rfl ?_
                exact ⟨by first | rfl | (simp [errW_none, errW_some] <;> rfl) | (simp [*, errW_none, errW_some] <;> rfl), by repeat (first | (with_reducible first | exact HB.out | apply bA | apply bN | apply bD | refine bS ?_ GE270.out | refine bS ?_ GE271.out) | exact HB.out)⟩
               ·
                rw [if_neg c86] at H
                have c86b0 : (t284 == a0) = false := bQ c86
                have c86b1 : (t284 != a0) = true := bne_iff_ne.mpr c86
                simp only [Option.some.injEq, Prod.mk.injEq] at H
                obtain ⟨rfl, rfl, rfl, rfl, rfl, rfl⟩ := H
                have hnb92 := NB271_270.out
                have hnc92 := NB270_271.out
                obtain ⟨hcz93_0, hcz93_1, hcz93_2, hcz93_3, hcz93_4, hfz93_0, hfz93_1, hfz93_2, hfz93_3, hfz93_4⟩ := cf5 BK271.out
                go_wp2_with (first | ((with_reducible refine gate_callee (f := 52) rfl ?_); refine goesL_ (some 65) rfl rfl Try.func52 (by kernel_rfl) rfl #[.agg #[.int .i64 ((Int.tdiv a0 16777216) % 4294967296), .int .i64 x272001_3, .int .i64 x272002_11, .int .i64 x272003_15, .int .i64 0]] rfl (by (try simp only [List.map_toArray, List.map_cons, List.map_nil]); first | done | rfl) ?_; (with_reducible refine (pascalineref02_Encode.calls kj42 ((Int.tdiv a0 16777216) % 4294967296) x272001_3 x272002_11 x272003_15 0 t284 t285 _ A84.out).mono ?_); rintro e w94 ⟨rfl, hb⟩; refine ⟨_, rfl, ?_⟩; have n0_ := mK (kB (g := gb270) (o := o5 0 0 0 0 0 102) (by (with_reducible repeat (first | refine kN ?_ _ | refine kD ?_ | refine kA ?_ _)); exact BK270.out) hb); have n1_ := mK (kB (g := gb271) (o := .cells #[.int .i64 ((Int.tdiv a0 16777216) % 4294967296), .int .i64 x272001_3, .int .i64 x272002_11, .int .i64 x272003_15, .int .i64 0] 102 (0, 0)) (by (with_reducible repeat (first | refine kN ?_ _ | refine kD ?_ | refine kA ?_ _)); exact BK271.out) hb); have n2_ := mK (bP (by repeat (first | (with_reducible first | exact HB.out | apply bA | apply bN | apply bD | refine bS ?_ GE270.out | refine bS ?_ GE271.out) | exact HB.out)) hb); clear BK270; clear BK271; clear HB; have BK270 := n0_; have BK271 := n1_; have HB := n2_; clear n0_ n1_ n2_; (try clear hb); obtain ⟨hcz95_0, hcz95_1, hcz95_2, hcz95_3, hcz95_4, hfz95_0, hfz95_1, hfz95_2, hfz95_3, hfz95_4⟩ := cf5 BK270.out))
                refine bodyPost_ret (results_ct rfl _ _ gb270 102 #[.int .i64 0, .int .i64 0, .int .i64 0, .int .i64 0, .int .i64 0] (0, 0) _ rfl (by (with_reducible repeat (first | refine kN ?_ _ | refine kD ?_ | refine kA ?_ _)); refine kP (cs := #[.int .i64 0, .int .i64 0, .int .i64 0, .int .i64 0, .int .i64 0]) ?_ 4 _ rfl; (with_reducible repeat (first | refine kN ?_ _ | refine kD ?_ | refine kA ?_ _)); refine kP (cs := #[.int .i64 0, .int .i64 0, .int .i64 0, .int .i64 0, .int .i64 0]) ?_ 3 _ rfl; (with_reducible repeat (first | refine kN ?_ _ | refine kD ?_ | refine kA ?_ _)); refine kP (cs := #[.int .i64 0, .int .i64 0, .int .i64 0, .int .i64 0, .int .i64 0]) ?_ 2 _ rfl; (with_reducible repeat (first | refine kN ?_ _ | refine kD ?_ | refine kA ?_ _)); refine kP (cs := #[.int .i64 0, .int .i64 0, .int .i64 0, .int .i64 0, .int .i64 0]) ?_ 1 _ rfl; (with_reducible repeat (first | refine kN ?_ _ | refine kD ?_ | refine kA ?_ _)); refine kP (cs := #[.int .i64 0, .int .i64 0, .int .i64 0, .int .i64 0, .int .i64 0]) ?_ 0 _ rfl; (with_reducible repeat (first | refine kN ?_ _ | refine kD ?_ | refine kA ?_ _)); exact BK270.out) Try.underlying102 rfl (by kernel_rfl)) rfl ?_
                exact ⟨by first | rfl | (simp [errW_none, errW_some] <;> rfl) | (simp [*, errW_none, errW_some] <;> rfl), by repeat (first | (with_reducible first | exact HB.out | apply bA | apply bN | apply bD | refine bS ?_ GE270.out | refine bS ?_ GE271.out) | exact HB.out)⟩
              ·
               rw [if_neg c85] at H
               have c85b0 : (t285 == 0) = false := bQ c85
               have c85b1 : (t285 != 0) = true := bne_iff_ne.mpr c85
               simp only [Option.some.injEq, Prod.mk.injEq] at H
               obtain ⟨rfl, rfl, rfl, rfl, rfl, rfl⟩ := H
               have hnb96 := NB271_270.out
               have hnc96 := NB270_271.out
               obtain ⟨hcz97_0, hcz97_1, hcz97_2, hcz97_3, hcz97_4, hfz97_0, hfz97_1, hfz97_2, hfz97_3, hfz97_4⟩ := cf5 BK271.out
               go_wp2_with (first | ((with_reducible refine gate_callee (f := 52) rfl ?_); refine goesL_ (some 65) rfl rfl Try.func52 (by kernel_rfl) rfl #[.agg #[.int .i64 ((Int.tdiv a0 16777216) % 4294967296), .int .i64 x272001_3, .int .i64 x272002_11, .int .i64 x272003_15, .int .i64 0]] rfl (by (try simp only [List.map_toArray, List.map_cons, List.map_nil]); first | done | rfl) ?_; (with_reducible refine (pascalineref02_Encode.calls kj42 ((Int.tdiv a0 16777216) % 4294967296) x272001_3 x272002_11 x272003_15 0 t284 t285 _ A84.out).mono ?_); rintro e w98 ⟨rfl, hb⟩; refine ⟨_, rfl, ?_⟩; have n0_ := mK (kB (g := gb270) (o := o5 0 0 0 0 0 102) (by (with_reducible repeat (first | refine kN ?_ _ | refine kD ?_ | refine kA ?_ _)); exact BK270.out) hb); have n1_ := mK (kB (g := gb271) (o := .cells #[.int .i64 ((Int.tdiv a0 16777216) % 4294967296), .int .i64 x272001_3, .int .i64 x272002_11, .int .i64 x272003_15, .int .i64 0] 102 (0, 0)) (by (with_reducible repeat (first | refine kN ?_ _ | refine kD ?_ | refine kA ?_ _)); exact BK271.out) hb); have n2_ := mK (bP (by repeat (first | (with_reducible first | exact HB.out | apply bA | apply bN | apply bD | refine bS ?_ GE270.out | refine bS ?_ GE271.out) | exact HB.out)) hb); clear BK270; clear BK271; clear HB; have BK270 := n0_; have BK271 := n1_; have HB := n2_; clear n0_ n1_ n2_; (try clear hb); obtain ⟨hcz99_0, hcz99_1, hcz99_2, hcz99_3, hcz99_4, hfz99_0, hfz99_1, hfz99_2, hfz99_3, hfz99_4⟩ := cf5 BK270.out))
               refine bodyPost_ret (results_ct rfl _ _ gb270 102 #[.int .i64 0, .int .i64 0, .int .i64 0, .int .i64 0, .int .i64 0] (0, 0) _ rfl (by (with_reducible repeat (first | refine kN ?_ _ | refine kD ?_ | refine kA ?_ _)); refine kP (cs := #[.int .i64 0, .int .i64 0, .int .i64 0, .int .i64 0, .int .i64 0]) ?_ 4 _ rfl; (with_reducible repeat (first | refine kN ?_ _ | refine kD ?_ | refine kA ?_ _)); refine kP (cs := #[.int .i64 0, .int .i64 0, .int .i64 0, .int .i64 0, .int .i64 0]) ?_ 3 _ rfl; (with_reducible repeat (first | refine kN ?_ _ | refine kD ?_ | refine kA ?_ _)); refine kP (cs := #[.int .i64 0, .int .i64 0, .int .i64 0, .int .i64 0, .int .i64 0]) ?_ 2 _ rfl; (with_reducible repeat (first | refine kN ?_ _ | refine kD ?_ | refine kA ?_ _)); refine kP (cs := #[.int .i64 0, .int .i64 0, .int .i64 0, .int .i64 0, .int .i64 0]) ?_ 1 _ rfl; (with_reducible repeat (first | refine kN ?_ _ | refine kD ?_ | refine kA ?_ _)); refine kP (cs := #[.int .i64 0, .int .i64 0, .int .i64 0, .int .i64 0, .int .i64 0]) ?_ 0 _ rfl; (with_reducible repeat (first | refine kN ?_ _ | refine kD ?_ | refine kA ?_ _)); exact BK270.out) Try.underlying102 rfl (by kernel_rfl)) rfl ?_
               exact ⟨by first | rfl | (simp [errW_none, errW_some] <;> rfl) | (simp [*, errW_none, errW_some] <;> rfl), by repeat (first | (with_reducible first | exact HB.out | apply bA | apply bN | apply bD | refine bS ?_ GE270.out | refine bS ?_ GE271.out) | exact HB.out)⟩


/-! ### pascalineref02_Name: function 54 -/
def pascalineref02_Name.f (a0 : Int) : Option (ByteArray) := (some (([(⟨#[72, 65, 76, 84]⟩ : ByteArray), (⟨#[76, 68, 73]⟩ : ByteArray), (⟨#[76, 85, 73]⟩ : ByteArray), (⟨#[79, 82, 73]⟩ : ByteArray), (⟨#[65, 68, 68, 73]⟩ : ByteArray), (⟨#[65, 68, 68]⟩ : ByteArray), (⟨#[83, 85, 66]⟩ : ByteArray), (⟨#[77, 85, 76]⟩ : ByteArray), (⟨#[68, 73, 86]⟩ : ByteArray), (⟨#[77, 79, 68]⟩ : ByteArray), (⟨#[65, 78, 68]⟩ : ByteArray), (⟨#[79, 82]⟩ : ByteArray), (⟨#[88, 79, 82]⟩ : ByteArray), (⟨#[83, 76, 84]⟩ : ByteArray), (⟨#[83, 76, 69]⟩ : ByteArray), (⟨#[83, 69, 81]⟩ : ByteArray), (⟨#[83, 78, 69]⟩ : ByteArray), (⟨#[76, 68, 87]⟩ : ByteArray), (⟨#[83, 84, 87]⟩ : ByteArray), (⟨#[66, 90]⟩ : ByteArray), (⟨#[66, 78, 90]⟩ : ByteArray), (⟨#[66, 82]⟩ : ByteArray), (⟨#[67, 65, 76, 76]⟩ : ByteArray), (⟨#[74, 82]⟩ : ByteArray), (⟨#[67, 65, 76, 76, 82]⟩ : ByteArray), (⟨#[67, 72, 75]⟩ : ByteArray), (⟨#[78, 73, 76]⟩ : ByteArray), (⟨#[84, 82, 65, 80]⟩ : ByteArray), (⟨#[82, 65, 73, 83, 69]⟩ : ByteArray), (⟨#[79, 85, 84]⟩ : ByteArray), (⟨#[73, 78]⟩ : ByteArray), (⟨#[67, 72, 75, 83]⟩ : ByteArray), (⟨#[82, 84, 67]⟩ : ByteArray), (⟨#[88, 79, 82, 73]⟩ : ByteArray)] : List ByteArray) : List ByteArray)).bind fun y286 => (if a0 < 1 then (some (⟨#[]⟩ : ByteArray)) else (if a0 > 34 then (some (⟨#[]⟩ : ByteArray)) else (if 0 ≤ (wrap64 (a0 - 1)) then (if (wrap64 (a0 - 1)) < (y286.length : Int) then (some (rdOf ByteArray.empty y286 (wrap64 (a0 - 1)))) else (none)) else (none))))
set_option maxHeartbeats 8000000 in
set_option maxRecDepth 100000 in
theorem pascalineref02_Name.calls (a0 : Int) (r : ByteArray) (w : World) (h : pascalineref02_Name.f a0 = some r) :
 Calls Try.prog 54 #[.int .i64 a0] w fun e w' => e = .returned (.string r) ∧ Below w.heap.size w w' := by
 have HB := mK (Below.refl w.heap.size w)
 have H : ((some (([(⟨#[72, 65, 76, 84]⟩ : ByteArray), (⟨#[76, 68, 73]⟩ : ByteArray), (⟨#[76, 85, 73]⟩ : ByteArray), (⟨#[79, 82, 73]⟩ : ByteArray), (⟨#[65, 68, 68, 73]⟩ : ByteArray), (⟨#[65, 68, 68]⟩ : ByteArray), (⟨#[83, 85, 66]⟩ : ByteArray), (⟨#[77, 85, 76]⟩ : ByteArray), (⟨#[68, 73, 86]⟩ : ByteArray), (⟨#[77, 79, 68]⟩ : ByteArray), (⟨#[65, 78, 68]⟩ : ByteArray), (⟨#[79, 82]⟩ : ByteArray), (⟨#[88, 79, 82]⟩ : ByteArray), (⟨#[83, 76, 84]⟩ : ByteArray), (⟨#[83, 76, 69]⟩ : ByteArray), (⟨#[83, 69, 81]⟩ : ByteArray), (⟨#[83, 78, 69]⟩ : ByteArray), (⟨#[76, 68, 87]⟩ : ByteArray), (⟨#[83, 84, 87]⟩ : ByteArray), (⟨#[66, 90]⟩ : ByteArray), (⟨#[66, 78, 90]⟩ : ByteArray), (⟨#[66, 82]⟩ : ByteArray), (⟨#[67, 65, 76, 76]⟩ : ByteArray), (⟨#[74, 82]⟩ : ByteArray), (⟨#[67, 65, 76, 76, 82]⟩ : ByteArray), (⟨#[67, 72, 75]⟩ : ByteArray), (⟨#[78, 73, 76]⟩ : ByteArray), (⟨#[84, 82, 65, 80]⟩ : ByteArray), (⟨#[82, 65, 73, 83, 69]⟩ : ByteArray), (⟨#[79, 85, 84]⟩ : ByteArray), (⟨#[73, 78]⟩ : ByteArray), (⟨#[67, 72, 75, 83]⟩ : ByteArray), (⟨#[82, 84, 67]⟩ : ByteArray), (⟨#[88, 79, 82, 73]⟩ : ByteArray)] : List ByteArray) : List ByteArray)).bind fun y286 => (if a0 < 1 then (some (⟨#[]⟩ : ByteArray)) else (if a0 > 34 then (some (⟨#[]⟩ : ByteArray)) else (if 0 ≤ (wrap64 (a0 - 1)) then (if (wrap64 (a0 - 1)) < (y286.length : Int) then (some (rdOf ByteArray.empty y286 (wrap64 (a0 - 1)))) else (none)) else (none))))) = some r := h
 clear h
 obtain ⟨y286, hy286⟩ : ∃ y_ : List ByteArray, y_ = (([(⟨#[72, 65, 76, 84]⟩ : ByteArray), (⟨#[76, 68, 73]⟩ : ByteArray), (⟨#[76, 85, 73]⟩ : ByteArray), (⟨#[79, 82, 73]⟩ : ByteArray), (⟨#[65, 68, 68, 73]⟩ : ByteArray), (⟨#[65, 68, 68]⟩ : ByteArray), (⟨#[83, 85, 66]⟩ : ByteArray), (⟨#[77, 85, 76]⟩ : ByteArray), (⟨#[68, 73, 86]⟩ : ByteArray), (⟨#[77, 79, 68]⟩ : ByteArray), (⟨#[65, 78, 68]⟩ : ByteArray), (⟨#[79, 82]⟩ : ByteArray), (⟨#[88, 79, 82]⟩ : ByteArray), (⟨#[83, 76, 84]⟩ : ByteArray), (⟨#[83, 76, 69]⟩ : ByteArray), (⟨#[83, 69, 81]⟩ : ByteArray), (⟨#[83, 78, 69]⟩ : ByteArray), (⟨#[76, 68, 87]⟩ : ByteArray), (⟨#[83, 84, 87]⟩ : ByteArray), (⟨#[66, 90]⟩ : ByteArray), (⟨#[66, 78, 90]⟩ : ByteArray), (⟨#[66, 82]⟩ : ByteArray), (⟨#[67, 65, 76, 76]⟩ : ByteArray), (⟨#[74, 82]⟩ : ByteArray), (⟨#[67, 65, 76, 76, 82]⟩ : ByteArray), (⟨#[67, 72, 75]⟩ : ByteArray), (⟨#[78, 73, 76]⟩ : ByteArray), (⟨#[84, 82, 65, 80]⟩ : ByteArray), (⟨#[82, 65, 73, 83, 69]⟩ : ByteArray), (⟨#[79, 85, 84]⟩ : ByteArray), (⟨#[73, 78]⟩ : ByteArray), (⟨#[67, 72, 75, 83]⟩ : ByteArray), (⟨#[82, 84, 67]⟩ : ByteArray), (⟨#[88, 79, 82, 73]⟩ : ByteArray)] : List ByteArray)) := ⟨_, rfl⟩
 replace H : (if a0 < 1 then (some (⟨#[]⟩ : ByteArray)) else (if a0 > 34 then (some (⟨#[]⟩ : ByteArray)) else (if 0 ≤ (wrap64 (a0 - 1)) then (if (wrap64 (a0 - 1)) < (y286.length : Int) then (some (rdOf ByteArray.empty y286 (wrap64 (a0 - 1)))) else (none)) else (none)))) = some r := by first | (rw [hy286]; with_reducible exact H) | (have H2_ := (Option.bind_some _ _).symm.trans H; rw [hy286]; with_reducible exact H2_) | (have H2_ := (Option.bind_some _ _).symm.trans H; with_reducible exact H2_) | with_reducible exact H | (rw [hy286]; exact H) | exact H
 have Ny286 := mK hy286
 clear hy286
 by_cases c2 : a0 < 1
 ·
  rw [if_pos c2] at H
  have c2b0 : decide (a0 < 1) = true := decide_eq_true c2
  clear c2
  obtain rfl := Option.some.inj H
  go_enter Try.func54, Try.ntmps54
  go_wp2_with (first | ((with_reducible refine gate_dst (N := 4) rfl ?_); refine Kd.R_lit Kd.string _ 9 ?hg (N := 4) ?hd (xs := ([(⟨#[72, 65, 76, 84]⟩ : ByteArray), (⟨#[76, 68, 73]⟩ : ByteArray), (⟨#[76, 85, 73]⟩ : ByteArray), (⟨#[79, 82, 73]⟩ : ByteArray), (⟨#[65, 68, 68, 73]⟩ : ByteArray), (⟨#[65, 68, 68]⟩ : ByteArray), (⟨#[83, 85, 66]⟩ : ByteArray), (⟨#[77, 85, 76]⟩ : ByteArray), (⟨#[68, 73, 86]⟩ : ByteArray), (⟨#[77, 79, 68]⟩ : ByteArray), (⟨#[65, 78, 68]⟩ : ByteArray), (⟨#[79, 82]⟩ : ByteArray), (⟨#[88, 79, 82]⟩ : ByteArray), (⟨#[83, 76, 84]⟩ : ByteArray), (⟨#[83, 76, 69]⟩ : ByteArray), (⟨#[83, 69, 81]⟩ : ByteArray), (⟨#[83, 78, 69]⟩ : ByteArray), (⟨#[76, 68, 87]⟩ : ByteArray), (⟨#[83, 84, 87]⟩ : ByteArray), (⟨#[66, 90]⟩ : ByteArray), (⟨#[66, 78, 90]⟩ : ByteArray), (⟨#[66, 82]⟩ : ByteArray), (⟨#[67, 65, 76, 76]⟩ : ByteArray), (⟨#[74, 82]⟩ : ByteArray), (⟨#[67, 65, 76, 76, 82]⟩ : ByteArray), (⟨#[67, 72, 75]⟩ : ByteArray), (⟨#[78, 73, 76]⟩ : ByteArray), (⟨#[84, 82, 65, 80]⟩ : ByteArray), (⟨#[82, 65, 73, 83, 69]⟩ : ByteArray), (⟨#[79, 85, 84]⟩ : ByteArray), (⟨#[73, 78]⟩ : ByteArray), (⟨#[67, 72, 75, 83]⟩ : ByteArray), (⟨#[82, 84, 67]⟩ : ByteArray), (⟨#[88, 79, 82, 73]⟩ : ByteArray)] : List ByteArray)) (inner := [.string (⟨#[72, 65, 76, 84]⟩ : ByteArray), .string (⟨#[76, 68, 73]⟩ : ByteArray), .string (⟨#[76, 85, 73]⟩ : ByteArray), .string (⟨#[79, 82, 73]⟩ : ByteArray), .string (⟨#[65, 68, 68, 73]⟩ : ByteArray), .string (⟨#[65, 68, 68]⟩ : ByteArray), .string (⟨#[83, 85, 66]⟩ : ByteArray), .string (⟨#[77, 85, 76]⟩ : ByteArray), .string (⟨#[68, 73, 86]⟩ : ByteArray), .string (⟨#[77, 79, 68]⟩ : ByteArray), .string (⟨#[65, 78, 68]⟩ : ByteArray), .string (⟨#[79, 82]⟩ : ByteArray), .string (⟨#[88, 79, 82]⟩ : ByteArray), .string (⟨#[83, 76, 84]⟩ : ByteArray), .string (⟨#[83, 76, 69]⟩ : ByteArray), .string (⟨#[83, 69, 81]⟩ : ByteArray), .string (⟨#[83, 78, 69]⟩ : ByteArray), .string (⟨#[76, 68, 87]⟩ : ByteArray), .string (⟨#[83, 84, 87]⟩ : ByteArray), .string (⟨#[66, 90]⟩ : ByteArray), .string (⟨#[66, 78, 90]⟩ : ByteArray), .string (⟨#[66, 82]⟩ : ByteArray), .string (⟨#[67, 65, 76, 76]⟩ : ByteArray), .string (⟨#[74, 82]⟩ : ByteArray), .string (⟨#[67, 65, 76, 76, 82]⟩ : ByteArray), .string (⟨#[67, 72, 75]⟩ : ByteArray), .string (⟨#[78, 73, 76]⟩ : ByteArray), .string (⟨#[84, 82, 65, 80]⟩ : ByteArray), .string (⟨#[82, 65, 73, 83, 69]⟩ : ByteArray), .string (⟨#[79, 85, 84]⟩ : ByteArray), .string (⟨#[73, 78]⟩ : ByteArray), .string (⟨#[67, 72, 75, 83]⟩ : ByteArray), .string (⟨#[82, 84, 67]⟩ : ByteArray), .string (⟨#[88, 79, 82, 73]⟩ : ByteArray)]) (ok := fun _ => True) (okp := fun _ => True) ?hr ?hp (fun _ hk => hk) trivial (Below.refl _ _) (Nat.le_refl _) (by simp) ?_; (case hd => rfl); (case hg => rfl); (case hr => first | (go_simp; done) | (go_simp; rfl)); (case hp => exact (Reps.one (show Kd.M Kd.string _ _ _ (⟨#[72, 65, 76, 84]⟩ : ByteArray) [.string (⟨#[72, 65, 76, 84]⟩ : ByteArray)] from rfl) (Reps.one (show Kd.M Kd.string _ _ _ (⟨#[76, 68, 73]⟩ : ByteArray) [.string (⟨#[76, 68, 73]⟩ : ByteArray)] from rfl) (Reps.one (show Kd.M Kd.string _ _ _ (⟨#[76, 85, 73]⟩ : ByteArray) [.string (⟨#[76, 85, 73]⟩ : ByteArray)] from rfl) (Reps.one (show Kd.M Kd.string _ _ _ (⟨#[79, 82, 73]⟩ : ByteArray) [.string (⟨#[79, 82, 73]⟩ : ByteArray)] from rfl) (Reps.one (show Kd.M Kd.string _ _ _ (⟨#[65, 68, 68, 73]⟩ : ByteArray) [.string (⟨#[65, 68, 68, 73]⟩ : ByteArray)] from rfl) (Reps.one (show Kd.M Kd.string _ _ _ (⟨#[65, 68, 68]⟩ : ByteArray) [.string (⟨#[65, 68, 68]⟩ : ByteArray)] from rfl) (Reps.one (show Kd.M Kd.string _ _ _ (⟨#[83, 85, 66]⟩ : ByteArray) [.string (⟨#[83, 85, 66]⟩ : ByteArray)] from rfl) (Reps.one (show Kd.M Kd.string _ _ _ (⟨#[77, 85, 76]⟩ : ByteArray) [.string (⟨#[77, 85, 76]⟩ : ByteArray)] from rfl) (Reps.one (show Kd.M Kd.string _ _ _ (⟨#[68, 73, 86]⟩ : ByteArray) [.string (⟨#[68, 73, 86]⟩ : ByteArray)] from rfl) (Reps.one (show Kd.M Kd.string _ _ _ (⟨#[77, 79, 68]⟩ : ByteArray) [.string (⟨#[77, 79, 68]⟩ : ByteArray)] from rfl) (Reps.one (show Kd.M Kd.string _ _ _ (⟨#[65, 78, 68]⟩ : ByteArray) [.string (⟨#[65, 78, 68]⟩ : ByteArray)] from rfl) (Reps.one (show Kd.M Kd.string _ _ _ (⟨#[79, 82]⟩ : ByteArray) [.string (⟨#[79, 82]⟩ : ByteArray)] from rfl) (Reps.one (show Kd.M Kd.string _ _ _ (⟨#[88, 79, 82]⟩ : ByteArray) [.string (⟨#[88, 79, 82]⟩ : ByteArray)] from rfl) (Reps.one (show Kd.M Kd.string _ _ _ (⟨#[83, 76, 84]⟩ : ByteArray) [.string (⟨#[83, 76, 84]⟩ : ByteArray)] from rfl) (Reps.one (show Kd.M Kd.string _ _ _ (⟨#[83, 76, 69]⟩ : ByteArray) [.string (⟨#[83, 76, 69]⟩ : ByteArray)] from rfl) (Reps.one (show Kd.M Kd.string _ _ _ (⟨#[83, 69, 81]⟩ : ByteArray) [.string (⟨#[83, 69, 81]⟩ : ByteArray)] from rfl) (Reps.one (show Kd.M Kd.string _ _ _ (⟨#[83, 78, 69]⟩ : ByteArray) [.string (⟨#[83, 78, 69]⟩ : ByteArray)] from rfl) (Reps.one (show Kd.M Kd.string _ _ _ (⟨#[76, 68, 87]⟩ : ByteArray) [.string (⟨#[76, 68, 87]⟩ : ByteArray)] from rfl) (Reps.one (show Kd.M Kd.string _ _ _ (⟨#[83, 84, 87]⟩ : ByteArray) [.string (⟨#[83, 84, 87]⟩ : ByteArray)] from rfl) (Reps.one (show Kd.M Kd.string _ _ _ (⟨#[66, 90]⟩ : ByteArray) [.string (⟨#[66, 90]⟩ : ByteArray)] from rfl) (Reps.one (show Kd.M Kd.string _ _ _ (⟨#[66, 78, 90]⟩ : ByteArray) [.string (⟨#[66, 78, 90]⟩ : ByteArray)] from rfl) (Reps.one (show Kd.M Kd.string _ _ _ (⟨#[66, 82]⟩ : ByteArray) [.string (⟨#[66, 82]⟩ : ByteArray)] from rfl) (Reps.one (show Kd.M Kd.string _ _ _ (⟨#[67, 65, 76, 76]⟩ : ByteArray) [.string (⟨#[67, 65, 76, 76]⟩ : ByteArray)] from rfl) (Reps.one (show Kd.M Kd.string _ _ _ (⟨#[74, 82]⟩ : ByteArray) [.string (⟨#[74, 82]⟩ : ByteArray)] from rfl) (Reps.one (show Kd.M Kd.string _ _ _ (⟨#[67, 65, 76, 76, 82]⟩ : ByteArray) [.string (⟨#[67, 65, 76, 76, 82]⟩ : ByteArray)] from rfl) (Reps.one (show Kd.M Kd.string _ _ _ (⟨#[67, 72, 75]⟩ : ByteArray) [.string (⟨#[67, 72, 75]⟩ : ByteArray)] from rfl) (Reps.one (show Kd.M Kd.string _ _ _ (⟨#[78, 73, 76]⟩ : ByteArray) [.string (⟨#[78, 73, 76]⟩ : ByteArray)] from rfl) (Reps.one (show Kd.M Kd.string _ _ _ (⟨#[84, 82, 65, 80]⟩ : ByteArray) [.string (⟨#[84, 82, 65, 80]⟩ : ByteArray)] from rfl) (Reps.one (show Kd.M Kd.string _ _ _ (⟨#[82, 65, 73, 83, 69]⟩ : ByteArray) [.string (⟨#[82, 65, 73, 83, 69]⟩ : ByteArray)] from rfl) (Reps.one (show Kd.M Kd.string _ _ _ (⟨#[79, 85, 84]⟩ : ByteArray) [.string (⟨#[79, 85, 84]⟩ : ByteArray)] from rfl) (Reps.one (show Kd.M Kd.string _ _ _ (⟨#[73, 78]⟩ : ByteArray) [.string (⟨#[73, 78]⟩ : ByteArray)] from rfl) (Reps.one (show Kd.M Kd.string _ _ _ (⟨#[67, 72, 75, 83]⟩ : ByteArray) [.string (⟨#[67, 72, 75, 83]⟩ : ByteArray)] from rfl) (Reps.one (show Kd.M Kd.string _ _ _ (⟨#[82, 84, 67]⟩ : ByteArray) [.string (⟨#[82, 84, 67]⟩ : ByteArray)] from rfl) (Reps.one (show Kd.M Kd.string _ _ _ (⟨#[88, 79, 82, 73]⟩ : ByteArray) [.string (⟨#[88, 79, 82, 73]⟩ : ByteArray)] from rfl) (Reps.none _ _)))))))))))))))))))))))))))))))))))); intro v287 w3 ho4 hb hg_ hnew_; clear hg_ hnew_; (first | rw [← Ny286.out] at ho4 | (simp only [Int.reduceToNat] at ho4; rw [← Ny286.out] at ho4)); have n0_ := mK (Kd.R_lower ho4 (bZ (by repeat (first | (with_reducible first | exact HB.out | apply bA | apply bN | apply bD) | exact HB.out)))); have n1_ := mK (bP (by repeat (first | (with_reducible first | exact HB.out | apply bA | apply bN | apply bD) | exact HB.out)) hb); clear HB; have HO288 := n0_; have HB := n1_; clear n0_ n1_; clear hb ho4))
  go_ret
  exact ⟨by first | rfl | (simp [errW_none, errW_some] <;> rfl) | (simp [*, errW_none, errW_some] <;> rfl), by repeat (first | (with_reducible first | exact HB.out | apply bA | apply bN | apply bD) | exact HB.out)⟩
 ·
  rw [if_neg c2] at H
  have c2b0 : decide (a0 < 1) = false := decide_eq_false c2
  clear c2
  by_cases c5 : a0 > 34
  ·
   rw [if_pos c5] at H
   have c5b0 : decide (34 < a0) = true := decide_eq_true c5
   clear c5
   obtain rfl := Option.some.inj H
   go_enter Try.func54, Try.ntmps54
   go_wp2_with (first | ((with_reducible refine gate_dst (N := 4) rfl ?_); refine Kd.R_lit Kd.string _ 9 ?hg (N := 4) ?hd (xs := ([(⟨#[72, 65, 76, 84]⟩ : ByteArray), (⟨#[76, 68, 73]⟩ : ByteArray), (⟨#[76, 85, 73]⟩ : ByteArray), (⟨#[79, 82, 73]⟩ : ByteArray), (⟨#[65, 68, 68, 73]⟩ : ByteArray), (⟨#[65, 68, 68]⟩ : ByteArray), (⟨#[83, 85, 66]⟩ : ByteArray), (⟨#[77, 85, 76]⟩ : ByteArray), (⟨#[68, 73, 86]⟩ : ByteArray), (⟨#[77, 79, 68]⟩ : ByteArray), (⟨#[65, 78, 68]⟩ : ByteArray), (⟨#[79, 82]⟩ : ByteArray), (⟨#[88, 79, 82]⟩ : ByteArray), (⟨#[83, 76, 84]⟩ : ByteArray), (⟨#[83, 76, 69]⟩ : ByteArray), (⟨#[83, 69, 81]⟩ : ByteArray), (⟨#[83, 78, 69]⟩ : ByteArray), (⟨#[76, 68, 87]⟩ : ByteArray), (⟨#[83, 84, 87]⟩ : ByteArray), (⟨#[66, 90]⟩ : ByteArray), (⟨#[66, 78, 90]⟩ : ByteArray), (⟨#[66, 82]⟩ : ByteArray), (⟨#[67, 65, 76, 76]⟩ : ByteArray), (⟨#[74, 82]⟩ : ByteArray), (⟨#[67, 65, 76, 76, 82]⟩ : ByteArray), (⟨#[67, 72, 75]⟩ : ByteArray), (⟨#[78, 73, 76]⟩ : ByteArray), (⟨#[84, 82, 65, 80]⟩ : ByteArray), (⟨#[82, 65, 73, 83, 69]⟩ : ByteArray), (⟨#[79, 85, 84]⟩ : ByteArray), (⟨#[73, 78]⟩ : ByteArray), (⟨#[67, 72, 75, 83]⟩ : ByteArray), (⟨#[82, 84, 67]⟩ : ByteArray), (⟨#[88, 79, 82, 73]⟩ : ByteArray)] : List ByteArray)) (inner := [.string (⟨#[72, 65, 76, 84]⟩ : ByteArray), .string (⟨#[76, 68, 73]⟩ : ByteArray), .string (⟨#[76, 85, 73]⟩ : ByteArray), .string (⟨#[79, 82, 73]⟩ : ByteArray), .string (⟨#[65, 68, 68, 73]⟩ : ByteArray), .string (⟨#[65, 68, 68]⟩ : ByteArray), .string (⟨#[83, 85, 66]⟩ : ByteArray), .string (⟨#[77, 85, 76]⟩ : ByteArray), .string (⟨#[68, 73, 86]⟩ : ByteArray), .string (⟨#[77, 79, 68]⟩ : ByteArray), .string (⟨#[65, 78, 68]⟩ : ByteArray), .string (⟨#[79, 82]⟩ : ByteArray), .string (⟨#[88, 79, 82]⟩ : ByteArray), .string (⟨#[83, 76, 84]⟩ : ByteArray), .string (⟨#[83, 76, 69]⟩ : ByteArray), .string (⟨#[83, 69, 81]⟩ : ByteArray), .string (⟨#[83, 78, 69]⟩ : ByteArray), .string (⟨#[76, 68, 87]⟩ : ByteArray), .string (⟨#[83, 84, 87]⟩ : ByteArray), .string (⟨#[66, 90]⟩ : ByteArray), .string (⟨#[66, 78, 90]⟩ : ByteArray), .string (⟨#[66, 82]⟩ : ByteArray), .string (⟨#[67, 65, 76, 76]⟩ : ByteArray), .string (⟨#[74, 82]⟩ : ByteArray), .string (⟨#[67, 65, 76, 76, 82]⟩ : ByteArray), .string (⟨#[67, 72, 75]⟩ : ByteArray), .string (⟨#[78, 73, 76]⟩ : ByteArray), .string (⟨#[84, 82, 65, 80]⟩ : ByteArray), .string (⟨#[82, 65, 73, 83, 69]⟩ : ByteArray), .string (⟨#[79, 85, 84]⟩ : ByteArray), .string (⟨#[73, 78]⟩ : ByteArray), .string (⟨#[67, 72, 75, 83]⟩ : ByteArray), .string (⟨#[82, 84, 67]⟩ : ByteArray), .string (⟨#[88, 79, 82, 73]⟩ : ByteArray)]) (ok := fun _ => True) (okp := fun _ => True) ?hr ?hp (fun _ hk => hk) trivial (Below.refl _ _) (Nat.le_refl _) (by simp) ?_; (case hd => rfl); (case hg => rfl); (case hr => first | (go_simp; done) | (go_simp; rfl)); (case hp => exact (Reps.one (show Kd.M Kd.string _ _ _ (⟨#[72, 65, 76, 84]⟩ : ByteArray) [.string (⟨#[72, 65, 76, 84]⟩ : ByteArray)] from rfl) (Reps.one (show Kd.M Kd.string _ _ _ (⟨#[76, 68, 73]⟩ : ByteArray) [.string (⟨#[76, 68, 73]⟩ : ByteArray)] from rfl) (Reps.one (show Kd.M Kd.string _ _ _ (⟨#[76, 85, 73]⟩ : ByteArray) [.string (⟨#[76, 85, 73]⟩ : ByteArray)] from rfl) (Reps.one (show Kd.M Kd.string _ _ _ (⟨#[79, 82, 73]⟩ : ByteArray) [.string (⟨#[79, 82, 73]⟩ : ByteArray)] from rfl) (Reps.one (show Kd.M Kd.string _ _ _ (⟨#[65, 68, 68, 73]⟩ : ByteArray) [.string (⟨#[65, 68, 68, 73]⟩ : ByteArray)] from rfl) (Reps.one (show Kd.M Kd.string _ _ _ (⟨#[65, 68, 68]⟩ : ByteArray) [.string (⟨#[65, 68, 68]⟩ : ByteArray)] from rfl) (Reps.one (show Kd.M Kd.string _ _ _ (⟨#[83, 85, 66]⟩ : ByteArray) [.string (⟨#[83, 85, 66]⟩ : ByteArray)] from rfl) (Reps.one (show Kd.M Kd.string _ _ _ (⟨#[77, 85, 76]⟩ : ByteArray) [.string (⟨#[77, 85, 76]⟩ : ByteArray)] from rfl) (Reps.one (show Kd.M Kd.string _ _ _ (⟨#[68, 73, 86]⟩ : ByteArray) [.string (⟨#[68, 73, 86]⟩ : ByteArray)] from rfl) (Reps.one (show Kd.M Kd.string _ _ _ (⟨#[77, 79, 68]⟩ : ByteArray) [.string (⟨#[77, 79, 68]⟩ : ByteArray)] from rfl) (Reps.one (show Kd.M Kd.string _ _ _ (⟨#[65, 78, 68]⟩ : ByteArray) [.string (⟨#[65, 78, 68]⟩ : ByteArray)] from rfl) (Reps.one (show Kd.M Kd.string _ _ _ (⟨#[79, 82]⟩ : ByteArray) [.string (⟨#[79, 82]⟩ : ByteArray)] from rfl) (Reps.one (show Kd.M Kd.string _ _ _ (⟨#[88, 79, 82]⟩ : ByteArray) [.string (⟨#[88, 79, 82]⟩ : ByteArray)] from rfl) (Reps.one (show Kd.M Kd.string _ _ _ (⟨#[83, 76, 84]⟩ : ByteArray) [.string (⟨#[83, 76, 84]⟩ : ByteArray)] from rfl) (Reps.one (show Kd.M Kd.string _ _ _ (⟨#[83, 76, 69]⟩ : ByteArray) [.string (⟨#[83, 76, 69]⟩ : ByteArray)] from rfl) (Reps.one (show Kd.M Kd.string _ _ _ (⟨#[83, 69, 81]⟩ : ByteArray) [.string (⟨#[83, 69, 81]⟩ : ByteArray)] from rfl) (Reps.one (show Kd.M Kd.string _ _ _ (⟨#[83, 78, 69]⟩ : ByteArray) [.string (⟨#[83, 78, 69]⟩ : ByteArray)] from rfl) (Reps.one (show Kd.M Kd.string _ _ _ (⟨#[76, 68, 87]⟩ : ByteArray) [.string (⟨#[76, 68, 87]⟩ : ByteArray)] from rfl) (Reps.one (show Kd.M Kd.string _ _ _ (⟨#[83, 84, 87]⟩ : ByteArray) [.string (⟨#[83, 84, 87]⟩ : ByteArray)] from rfl) (Reps.one (show Kd.M Kd.string _ _ _ (⟨#[66, 90]⟩ : ByteArray) [.string (⟨#[66, 90]⟩ : ByteArray)] from rfl) (Reps.one (show Kd.M Kd.string _ _ _ (⟨#[66, 78, 90]⟩ : ByteArray) [.string (⟨#[66, 78, 90]⟩ : ByteArray)] from rfl) (Reps.one (show Kd.M Kd.string _ _ _ (⟨#[66, 82]⟩ : ByteArray) [.string (⟨#[66, 82]⟩ : ByteArray)] from rfl) (Reps.one (show Kd.M Kd.string _ _ _ (⟨#[67, 65, 76, 76]⟩ : ByteArray) [.string (⟨#[67, 65, 76, 76]⟩ : ByteArray)] from rfl) (Reps.one (show Kd.M Kd.string _ _ _ (⟨#[74, 82]⟩ : ByteArray) [.string (⟨#[74, 82]⟩ : ByteArray)] from rfl) (Reps.one (show Kd.M Kd.string _ _ _ (⟨#[67, 65, 76, 76, 82]⟩ : ByteArray) [.string (⟨#[67, 65, 76, 76, 82]⟩ : ByteArray)] from rfl) (Reps.one (show Kd.M Kd.string _ _ _ (⟨#[67, 72, 75]⟩ : ByteArray) [.string (⟨#[67, 72, 75]⟩ : ByteArray)] from rfl) (Reps.one (show Kd.M Kd.string _ _ _ (⟨#[78, 73, 76]⟩ : ByteArray) [.string (⟨#[78, 73, 76]⟩ : ByteArray)] from rfl) (Reps.one (show Kd.M Kd.string _ _ _ (⟨#[84, 82, 65, 80]⟩ : ByteArray) [.string (⟨#[84, 82, 65, 80]⟩ : ByteArray)] from rfl) (Reps.one (show Kd.M Kd.string _ _ _ (⟨#[82, 65, 73, 83, 69]⟩ : ByteArray) [.string (⟨#[82, 65, 73, 83, 69]⟩ : ByteArray)] from rfl) (Reps.one (show Kd.M Kd.string _ _ _ (⟨#[79, 85, 84]⟩ : ByteArray) [.string (⟨#[79, 85, 84]⟩ : ByteArray)] from rfl) (Reps.one (show Kd.M Kd.string _ _ _ (⟨#[73, 78]⟩ : ByteArray) [.string (⟨#[73, 78]⟩ : ByteArray)] from rfl) (Reps.one (show Kd.M Kd.string _ _ _ (⟨#[67, 72, 75, 83]⟩ : ByteArray) [.string (⟨#[67, 72, 75, 83]⟩ : ByteArray)] from rfl) (Reps.one (show Kd.M Kd.string _ _ _ (⟨#[82, 84, 67]⟩ : ByteArray) [.string (⟨#[82, 84, 67]⟩ : ByteArray)] from rfl) (Reps.one (show Kd.M Kd.string _ _ _ (⟨#[88, 79, 82, 73]⟩ : ByteArray) [.string (⟨#[88, 79, 82, 73]⟩ : ByteArray)] from rfl) (Reps.none _ _)))))))))))))))))))))))))))))))))))); intro v287 w6 ho7 hb hg_ hnew_; clear hg_ hnew_; (first | rw [← Ny286.out] at ho7 | (simp only [Int.reduceToNat] at ho7; rw [← Ny286.out] at ho7)); have n0_ := mK (Kd.R_lower ho7 (bZ (by repeat (first | (with_reducible first | exact HB.out | apply bA | apply bN | apply bD) | exact HB.out)))); have n1_ := mK (bP (by repeat (first | (with_reducible first | exact HB.out | apply bA | apply bN | apply bD) | exact HB.out)) hb); clear HB; have HO288 := n0_; have HB := n1_; clear n0_ n1_; clear hb ho7))
   go_ret
   exact ⟨by first | rfl | (simp [errW_none, errW_some] <;> rfl) | (simp [*, errW_none, errW_some] <;> rfl), by repeat (first | (with_reducible first | exact HB.out | apply bA | apply bN | apply bD) | exact HB.out)⟩
  ·
   rw [if_neg c5] at H
   have c5b0 : decide (34 < a0) = false := decide_eq_false c5
   clear c5
   obtain ⟨ji8, hji8⟩ : ∃ j_ : Int, (wrap64 (a0 - 1)) = j_ := ⟨_, rfl⟩
   replace H : (if 0 ≤ (ji8) then (if (ji8) < (y286.length : Int) then (some (rdOf ByteArray.empty y286 (ji8))) else (none)) else (none)) = some r := by first | (rw [hji8] at H; exact H) | (simp only [hji8] at H ⊢; exact H)
   have hji8w : (IntKind.i64.wrap (a0 - 1)) = ji8 := (i64_w _).trans hji8
   by_cases c9 : 0 ≤ (ji8)
   ·
    rw [if_pos c9] at H
    have c9b0 : decide (0 ≤ (ji8)) = true := decide_eq_true c9
    clear c9
    by_cases c10 : (ji8) < (y286.length : Int)
    ·
     rw [if_pos c10] at H
     have c10b0 : decide ((ji8) < (y286.length : Int)) = true := decide_eq_true c10
     clear c10
     obtain rfl := Option.some.inj H
     go_enter Try.func54, Try.ntmps54
     go_wp2_with (first | ((with_reducible refine gate_dst (N := 4) rfl ?_); refine Kd.R_lit Kd.string _ 9 ?hg (N := 4) ?hd (xs := ([(⟨#[72, 65, 76, 84]⟩ : ByteArray), (⟨#[76, 68, 73]⟩ : ByteArray), (⟨#[76, 85, 73]⟩ : ByteArray), (⟨#[79, 82, 73]⟩ : ByteArray), (⟨#[65, 68, 68, 73]⟩ : ByteArray), (⟨#[65, 68, 68]⟩ : ByteArray), (⟨#[83, 85, 66]⟩ : ByteArray), (⟨#[77, 85, 76]⟩ : ByteArray), (⟨#[68, 73, 86]⟩ : ByteArray), (⟨#[77, 79, 68]⟩ : ByteArray), (⟨#[65, 78, 68]⟩ : ByteArray), (⟨#[79, 82]⟩ : ByteArray), (⟨#[88, 79, 82]⟩ : ByteArray), (⟨#[83, 76, 84]⟩ : ByteArray), (⟨#[83, 76, 69]⟩ : ByteArray), (⟨#[83, 69, 81]⟩ : ByteArray), (⟨#[83, 78, 69]⟩ : ByteArray), (⟨#[76, 68, 87]⟩ : ByteArray), (⟨#[83, 84, 87]⟩ : ByteArray), (⟨#[66, 90]⟩ : ByteArray), (⟨#[66, 78, 90]⟩ : ByteArray), (⟨#[66, 82]⟩ : ByteArray), (⟨#[67, 65, 76, 76]⟩ : ByteArray), (⟨#[74, 82]⟩ : ByteArray), (⟨#[67, 65, 76, 76, 82]⟩ : ByteArray), (⟨#[67, 72, 75]⟩ : ByteArray), (⟨#[78, 73, 76]⟩ : ByteArray), (⟨#[84, 82, 65, 80]⟩ : ByteArray), (⟨#[82, 65, 73, 83, 69]⟩ : ByteArray), (⟨#[79, 85, 84]⟩ : ByteArray), (⟨#[73, 78]⟩ : ByteArray), (⟨#[67, 72, 75, 83]⟩ : ByteArray), (⟨#[82, 84, 67]⟩ : ByteArray), (⟨#[88, 79, 82, 73]⟩ : ByteArray)] : List ByteArray)) (inner := [.string (⟨#[72, 65, 76, 84]⟩ : ByteArray), .string (⟨#[76, 68, 73]⟩ : ByteArray), .string (⟨#[76, 85, 73]⟩ : ByteArray), .string (⟨#[79, 82, 73]⟩ : ByteArray), .string (⟨#[65, 68, 68, 73]⟩ : ByteArray), .string (⟨#[65, 68, 68]⟩ : ByteArray), .string (⟨#[83, 85, 66]⟩ : ByteArray), .string (⟨#[77, 85, 76]⟩ : ByteArray), .string (⟨#[68, 73, 86]⟩ : ByteArray), .string (⟨#[77, 79, 68]⟩ : ByteArray), .string (⟨#[65, 78, 68]⟩ : ByteArray), .string (⟨#[79, 82]⟩ : ByteArray), .string (⟨#[88, 79, 82]⟩ : ByteArray), .string (⟨#[83, 76, 84]⟩ : ByteArray), .string (⟨#[83, 76, 69]⟩ : ByteArray), .string (⟨#[83, 69, 81]⟩ : ByteArray), .string (⟨#[83, 78, 69]⟩ : ByteArray), .string (⟨#[76, 68, 87]⟩ : ByteArray), .string (⟨#[83, 84, 87]⟩ : ByteArray), .string (⟨#[66, 90]⟩ : ByteArray), .string (⟨#[66, 78, 90]⟩ : ByteArray), .string (⟨#[66, 82]⟩ : ByteArray), .string (⟨#[67, 65, 76, 76]⟩ : ByteArray), .string (⟨#[74, 82]⟩ : ByteArray), .string (⟨#[67, 65, 76, 76, 82]⟩ : ByteArray), .string (⟨#[67, 72, 75]⟩ : ByteArray), .string (⟨#[78, 73, 76]⟩ : ByteArray), .string (⟨#[84, 82, 65, 80]⟩ : ByteArray), .string (⟨#[82, 65, 73, 83, 69]⟩ : ByteArray), .string (⟨#[79, 85, 84]⟩ : ByteArray), .string (⟨#[73, 78]⟩ : ByteArray), .string (⟨#[67, 72, 75, 83]⟩ : ByteArray), .string (⟨#[82, 84, 67]⟩ : ByteArray), .string (⟨#[88, 79, 82, 73]⟩ : ByteArray)]) (ok := fun _ => True) (okp := fun _ => True) ?hr ?hp (fun _ hk => hk) trivial (Below.refl _ _) (Nat.le_refl _) (by simp) ?_; (case hd => rfl); (case hg => rfl); (case hr => first | (go_simp; done) | (go_simp; rfl)); (case hp => exact (Reps.one (show Kd.M Kd.string _ _ _ (⟨#[72, 65, 76, 84]⟩ : ByteArray) [.string (⟨#[72, 65, 76, 84]⟩ : ByteArray)] from rfl) (Reps.one (show Kd.M Kd.string _ _ _ (⟨#[76, 68, 73]⟩ : ByteArray) [.string (⟨#[76, 68, 73]⟩ : ByteArray)] from rfl) (Reps.one (show Kd.M Kd.string _ _ _ (⟨#[76, 85, 73]⟩ : ByteArray) [.string (⟨#[76, 85, 73]⟩ : ByteArray)] from rfl) (Reps.one (show Kd.M Kd.string _ _ _ (⟨#[79, 82, 73]⟩ : ByteArray) [.string (⟨#[79, 82, 73]⟩ : ByteArray)] from rfl) (Reps.one (show Kd.M Kd.string _ _ _ (⟨#[65, 68, 68, 73]⟩ : ByteArray) [.string (⟨#[65, 68, 68, 73]⟩ : ByteArray)] from rfl) (Reps.one (show Kd.M Kd.string _ _ _ (⟨#[65, 68, 68]⟩ : ByteArray) [.string (⟨#[65, 68, 68]⟩ : ByteArray)] from rfl) (Reps.one (show Kd.M Kd.string _ _ _ (⟨#[83, 85, 66]⟩ : ByteArray) [.string (⟨#[83, 85, 66]⟩ : ByteArray)] from rfl) (Reps.one (show Kd.M Kd.string _ _ _ (⟨#[77, 85, 76]⟩ : ByteArray) [.string (⟨#[77, 85, 76]⟩ : ByteArray)] from rfl) (Reps.one (show Kd.M Kd.string _ _ _ (⟨#[68, 73, 86]⟩ : ByteArray) [.string (⟨#[68, 73, 86]⟩ : ByteArray)] from rfl) (Reps.one (show Kd.M Kd.string _ _ _ (⟨#[77, 79, 68]⟩ : ByteArray) [.string (⟨#[77, 79, 68]⟩ : ByteArray)] from rfl) (Reps.one (show Kd.M Kd.string _ _ _ (⟨#[65, 78, 68]⟩ : ByteArray) [.string (⟨#[65, 78, 68]⟩ : ByteArray)] from rfl) (Reps.one (show Kd.M Kd.string _ _ _ (⟨#[79, 82]⟩ : ByteArray) [.string (⟨#[79, 82]⟩ : ByteArray)] from rfl) (Reps.one (show Kd.M Kd.string _ _ _ (⟨#[88, 79, 82]⟩ : ByteArray) [.string (⟨#[88, 79, 82]⟩ : ByteArray)] from rfl) (Reps.one (show Kd.M Kd.string _ _ _ (⟨#[83, 76, 84]⟩ : ByteArray) [.string (⟨#[83, 76, 84]⟩ : ByteArray)] from rfl) (Reps.one (show Kd.M Kd.string _ _ _ (⟨#[83, 76, 69]⟩ : ByteArray) [.string (⟨#[83, 76, 69]⟩ : ByteArray)] from rfl) (Reps.one (show Kd.M Kd.string _ _ _ (⟨#[83, 69, 81]⟩ : ByteArray) [.string (⟨#[83, 69, 81]⟩ : ByteArray)] from rfl) (Reps.one (show Kd.M Kd.string _ _ _ (⟨#[83, 78, 69]⟩ : ByteArray) [.string (⟨#[83, 78, 69]⟩ : ByteArray)] from rfl) (Reps.one (show Kd.M Kd.string _ _ _ (⟨#[76, 68, 87]⟩ : ByteArray) [.string (⟨#[76, 68, 87]⟩ : ByteArray)] from rfl) (Reps.one (show Kd.M Kd.string _ _ _ (⟨#[83, 84, 87]⟩ : ByteArray) [.string (⟨#[83, 84, 87]⟩ : ByteArray)] from rfl) (Reps.one (show Kd.M Kd.string _ _ _ (⟨#[66, 90]⟩ : ByteArray) [.string (⟨#[66, 90]⟩ : ByteArray)] from rfl) (Reps.one (show Kd.M Kd.string _ _ _ (⟨#[66, 78, 90]⟩ : ByteArray) [.string (⟨#[66, 78, 90]⟩ : ByteArray)] from rfl) (Reps.one (show Kd.M Kd.string _ _ _ (⟨#[66, 82]⟩ : ByteArray) [.string (⟨#[66, 82]⟩ : ByteArray)] from rfl) (Reps.one (show Kd.M Kd.string _ _ _ (⟨#[67, 65, 76, 76]⟩ : ByteArray) [.string (⟨#[67, 65, 76, 76]⟩ : ByteArray)] from rfl) (Reps.one (show Kd.M Kd.string _ _ _ (⟨#[74, 82]⟩ : ByteArray) [.string (⟨#[74, 82]⟩ : ByteArray)] from rfl) (Reps.one (show Kd.M Kd.string _ _ _ (⟨#[67, 65, 76, 76, 82]⟩ : ByteArray) [.string (⟨#[67, 65, 76, 76, 82]⟩ : ByteArray)] from rfl) (Reps.one (show Kd.M Kd.string _ _ _ (⟨#[67, 72, 75]⟩ : ByteArray) [.string (⟨#[67, 72, 75]⟩ : ByteArray)] from rfl) (Reps.one (show Kd.M Kd.string _ _ _ (⟨#[78, 73, 76]⟩ : ByteArray) [.string (⟨#[78, 73, 76]⟩ : ByteArray)] from rfl) (Reps.one (show Kd.M Kd.string _ _ _ (⟨#[84, 82, 65, 80]⟩ : ByteArray) [.string (⟨#[84, 82, 65, 80]⟩ : ByteArray)] from rfl) (Reps.one (show Kd.M Kd.string _ _ _ (⟨#[82, 65, 73, 83, 69]⟩ : ByteArray) [.string (⟨#[82, 65, 73, 83, 69]⟩ : ByteArray)] from rfl) (Reps.one (show Kd.M Kd.string _ _ _ (⟨#[79, 85, 84]⟩ : ByteArray) [.string (⟨#[79, 85, 84]⟩ : ByteArray)] from rfl) (Reps.one (show Kd.M Kd.string _ _ _ (⟨#[73, 78]⟩ : ByteArray) [.string (⟨#[73, 78]⟩ : ByteArray)] from rfl) (Reps.one (show Kd.M Kd.string _ _ _ (⟨#[67, 72, 75, 83]⟩ : ByteArray) [.string (⟨#[67, 72, 75, 83]⟩ : ByteArray)] from rfl) (Reps.one (show Kd.M Kd.string _ _ _ (⟨#[82, 84, 67]⟩ : ByteArray) [.string (⟨#[82, 84, 67]⟩ : ByteArray)] from rfl) (Reps.one (show Kd.M Kd.string _ _ _ (⟨#[88, 79, 82, 73]⟩ : ByteArray) [.string (⟨#[88, 79, 82, 73]⟩ : ByteArray)] from rfl) (Reps.none _ _)))))))))))))))))))))))))))))))))))); intro v287 w11 ho12 hb hg_ hnew_; clear hg_ hnew_; (first | rw [← Ny286.out] at ho12 | (simp only [Int.reduceToNat] at ho12; rw [← Ny286.out] at ho12)); have n0_ := mK (Kd.R_lower ho12 (bZ (by repeat (first | (with_reducible first | exact HB.out | apply bA | apply bN | apply bD) | exact HB.out)))); have n1_ := mK (bP (by repeat (first | (with_reducible first | exact HB.out | apply bA | apply bN | apply bD) | exact HB.out)) hb); clear HB; have HO288 := n0_; have HB := n1_; clear n0_ n1_; clear hb ho12; obtain ⟨Ao13, co13, eo13⟩ := Kd.R_slice HO288.out; subst eo13; have p289 : 0 ≤ ((ji8) : Int) := of_decide_eq_true (by first | (with_reducible assumption) | assumption); have q289 : (ji8) < (y286.length : Int) := of_decide_eq_true (by first | (with_reducible assumption) | assumption); obtain ⟨ad289, e289, hx289_0⟩ := Kd.at_string (Kd.R_reads' HO288.out).2.2 (ji8) p289 q289; cases e289; replace p289 := eq_true p289; replace q289 := eq_true q289))
     go_ret
     exact ⟨by first | rfl | (simp [errW_none, errW_some] <;> rfl) | (simp only [← hji8]; first | rfl | (simp [errW_none, errW_some] <;> rfl)) | (simp [*, errW_none, errW_some] <;> rfl), by repeat (first | (with_reducible first | exact HB.out | apply bA | apply bN | apply bD) | exact HB.out)⟩
    ·
     rw [if_neg c10] at H
     exact absurd H (by simp)
   ·
    rw [if_neg c9] at H
    exact absurd H (by simp)


/-! ### pascalineref02_Fields: function 55 -/
mutual
def pascalineref02_Fields.j0 : Nat → Bool → Bool → List ByteArray → Int → Int → Int → Int → Int → Option (List ByteArray)
 | 0, _, _, _, _, _, _, _, _ => none
 | k + 1, x4, x5, x6, x291000, x291001, x291002, x291003, x291004 => if x4 = true then ((pascalineref01_Text.f x291002).bind fun t299 => (if 1 + t299.size ≤ 9223372036854775807 then (if x291000 = 26 then ((pascalineref01_Text.f x291002).bind fun t300 => (if x6.length < 8796093022208 then (pascalineref02_Fields.j1 k x5 (x6 ++ [t300]) x291000 x291001 x291002 x291003 x291004) else (none))) else (if x6.length < 8796093022208 then (pascalineref02_Fields.j1 k x5 (x6 ++ [(⟨#[114]⟩ : ByteArray) ++ t299]) x291000 x291001 x291002 x291003 x291004) else (none))) else (none))) else (pascalineref02_Fields.j1 k x5 x6 x291000 x291001 x291002 x291003 x291004)
def pascalineref02_Fields.j1 : Nat → Bool → List ByteArray → Int → Int → Int → Int → Int → Option (List ByteArray)
 | 0, _, _, _, _, _, _, _ => none
 | k + 1, x5, x6, x291000, x291001, x291002, x291003, x291004 => if x5 = true then ((pascalineref01_Text.f x291003).bind fun t307 => (if 1 + t307.size ≤ 9223372036854775807 then (if x6.length < 8796093022208 then (pascalineref02_Fields.j2 k (x6 ++ [(⟨#[114]⟩ : ByteArray) ++ t307]) x291000 x291001 x291002 x291003 x291004) else (none)) else (none))) else (pascalineref02_Fields.j2 k x6 x291000 x291001 x291002 x291003 x291004)
def pascalineref02_Fields.j2 : Nat → List ByteArray → Int → Int → Int → Int → Int → Option (List ByteArray)
 | 0, _, _, _, _, _, _ => none
 | k + 1, x6, x291000, x291001, x291002, x291003, x291004 => (pascalineref02_Shape.f k x291000).bind fun t311 => (if t311 = 0 then (some x6) else (if t311 = 5 then (some x6) else (if t311 = 6 then (some x6) else ((pascalineref01_Text.f x291004).bind fun t312 => (if x6.length < 8796093022208 then (some (x6 ++ [t312])) else (none))))))
end
def pascalineref02_Fields.f (k : Nat) (a0_0 : Int) (a0_1 : Int) (a0_2 : Int) (a0_3 : Int) (a0_4 : Int) : Option (List ByteArray) := (pascalineref02_Shape.f k a0_0).bind fun t291 => ((pascalineref02_has.f t291).bind fun bt292 => (if bt292.1 = true then ((pascalineref01_Text.f a0_1).bind fun t295 => (if 1 + t295.size ≤ 9223372036854775807 then (if ([] : List ByteArray).length < 8796093022208 then (pascalineref02_Fields.j0 k bt292.2.1 bt292.2.2 (([] : List ByteArray) ++ [(⟨#[114]⟩ : ByteArray) ++ t295]) a0_0 a0_1 a0_2 a0_3 a0_4) else (none)) else (none))) else (pascalineref02_Fields.j0 k bt292.2.1 bt292.2.2 ([] : List ByteArray) a0_0 a0_1 a0_2 a0_3 a0_4)))
theorem pascalineref02_Fields.mono_l : ∀ k, (∀ y0 y1 y2 y3 y4 y5 y6 y7, LeO (pascalineref02_Fields.j0 k y0 y1 y2 y3 y4 y5 y6 y7) (pascalineref02_Fields.j0 (k + 1) y0 y1 y2 y3 y4 y5 y6 y7)) ∧ (∀ y0 y1 y2 y3 y4 y5 y6, LeO (pascalineref02_Fields.j1 k y0 y1 y2 y3 y4 y5 y6) (pascalineref02_Fields.j1 (k + 1) y0 y1 y2 y3 y4 y5 y6)) ∧ (∀ y0 y1 y2 y3 y4 y5, LeO (pascalineref02_Fields.j2 k y0 y1 y2 y3 y4 y5) (pascalineref02_Fields.j2 (k + 1) y0 y1 y2 y3 y4 y5))
 | 0 => ⟨fun _ _ _ _ _ _ _ _ r h => by simp [pascalineref02_Fields.j0] at h, fun _ _ _ _ _ _ _ r h => by simp [pascalineref02_Fields.j1] at h, fun _ _ _ _ _ _ r h => by simp [pascalineref02_Fields.j2] at h⟩
 | k + 1 => by
  obtain ⟨ih0, ih1, ih2⟩ := pascalineref02_Fields.mono_l k
  refine ⟨?_, ?_, ?_⟩
  ·
   intro y0 y1 y2 y3 y4 y5 y6 y7
   unfold pascalineref02_Fields.j0
   repeat' first
   | (with_reducible exact ih0 _ _ _ _ _ _ _ _)
   | (with_reducible exact ih1 _ _ _ _ _ _ _)
   | (with_reducible exact ih2 _ _ _ _ _ _)
   | (with_reducible exact pascalineref02_Shape.mono _ _)
   | (with_reducible exact LeO.refl _)
   | (with_reducible exact LeO.none _)
   | (with_reducible refine LeO.ite ?_ ?_)
   | (with_reducible refine LeO.bind ?_ (fun _ => ?_))
   | exact LeO.none _
   | refine LeO.ite ?_ ?_
   | refine LeO.bind ?_ (fun _ => ?_)
  ·
   intro y0 y1 y2 y3 y4 y5 y6
   unfold pascalineref02_Fields.j1
   repeat' first
   | (with_reducible exact ih0 _ _ _ _ _ _ _ _)
   | (with_reducible exact ih1 _ _ _ _ _ _ _)
   | (with_reducible exact ih2 _ _ _ _ _ _)
   | (with_reducible exact pascalineref02_Shape.mono _ _)
   | (with_reducible exact LeO.refl _)
   | (with_reducible exact LeO.none _)
   | (with_reducible refine LeO.ite ?_ ?_)
   | (with_reducible refine LeO.bind ?_ (fun _ => ?_))
   | exact LeO.none _
   | refine LeO.ite ?_ ?_
   | refine LeO.bind ?_ (fun _ => ?_)
  ·
   intro y0 y1 y2 y3 y4 y5
   unfold pascalineref02_Fields.j2
   repeat' first
   | (with_reducible exact ih0 _ _ _ _ _ _ _ _)
   | (with_reducible exact ih1 _ _ _ _ _ _ _)
   | (with_reducible exact ih2 _ _ _ _ _ _)
   | (with_reducible exact pascalineref02_Shape.mono _ _)
   | (with_reducible exact LeO.refl _)
   | (with_reducible exact LeO.none _)
   | (with_reducible refine LeO.ite ?_ ?_)
   | (with_reducible refine LeO.bind ?_ (fun _ => ?_))
   | exact LeO.none _
   | refine LeO.ite ?_ ?_
   | refine LeO.bind ?_ (fun _ => ?_)
theorem pascalineref02_Fields.mono : ∀ a0 a1 a2 a3 a4 k, LeO (pascalineref02_Fields.f k a0 a1 a2 a3 a4) (pascalineref02_Fields.f (k + 1) a0 a1 a2 a3 a4) := by
 intro a0 a1 a2 a3 a4 k
 obtain ⟨ih0, ih1, ih2⟩ := pascalineref02_Fields.mono_l k
 unfold pascalineref02_Fields.f
 repeat' first
  | (with_reducible exact ih0 _ _ _ _ _ _ _ _)
  | (with_reducible exact ih1 _ _ _ _ _ _ _)
  | (with_reducible exact ih2 _ _ _ _ _ _)
  | (with_reducible exact pascalineref02_Shape.mono _ _)
  | (with_reducible exact LeO.refl _)
  | (with_reducible exact LeO.none _)
  | (with_reducible refine LeO.ite ?_ ?_)
  | (with_reducible refine LeO.bind ?_ (fun _ => ?_))
  | exact LeO.none _
  | refine LeO.ite ?_ ?_
  | refine LeO.bind ?_ (fun _ => ?_)
set_option maxHeartbeats 8000000 in
set_option maxRecDepth 100000 in
theorem pascalineref02_Fields.calls (k : Nat) (a0_0 : Int) (a0_1 : Int) (a0_2 : Int) (a0_3 : Int) (a0_4 : Int) (r : List ByteArray) (w : World) (h : pascalineref02_Fields.f k a0_0 a0_1 a0_2 a0_3 a0_4 = some r) :
 Calls Try.prog 55 #[.agg #[.int .i64 a0_0, .int .i64 a0_1, .int .i64 a0_2, .int .i64 a0_3, .int .i64 a0_4]] w fun e w' => ∃ v0_ : Value, e = .returned (v0_) ∧ Kd.R Kd.string 9 w' w.heap.size (fun _ => True) v0_ r ∧ Below w.heap.size w w' := by
 have hu102 := Try.underlying102
 have HB := mK (Below.refl w.heap.size w)
 have H : ((pascalineref02_Shape.f k a0_0).bind fun t291 => ((pascalineref02_has.f t291).bind fun bt292 => (if bt292.1 = true then ((pascalineref01_Text.f a0_1).bind fun t295 => (if 1 + t295.size ≤ 9223372036854775807 then (if ([] : List ByteArray).length < 8796093022208 then (pascalineref02_Fields.j0 k bt292.2.1 bt292.2.2 (([] : List ByteArray) ++ [(⟨#[114]⟩ : ByteArray) ++ t295]) a0_0 a0_1 a0_2 a0_3 a0_4) else (none)) else (none))) else (pascalineref02_Fields.j0 k bt292.2.1 bt292.2.2 ([] : List ByteArray) a0_0 a0_1 a0_2 a0_3 a0_4)))) = some r := h
 clear h
 replace H := oB H
 obtain ⟨t291, A20, H⟩ := H
 replace H : ((pascalineref02_has.f t291).bind fun bt292 => (if bt292.1 = true then ((pascalineref01_Text.f a0_1).bind fun t295 => (if 1 + t295.size ≤ 9223372036854775807 then (if ([] : List ByteArray).length < 8796093022208 then (pascalineref02_Fields.j0 k bt292.2.1 bt292.2.2 (([] : List ByteArray) ++ [(⟨#[114]⟩ : ByteArray) ++ t295]) a0_0 a0_1 a0_2 a0_3 a0_4) else (none)) else (none))) else (pascalineref02_Fields.j0 k bt292.2.1 bt292.2.2 ([] : List ByteArray) a0_0 a0_1 a0_2 a0_3 a0_4))) = some r := H
 have A2 := mK A20
 clear A20
 replace H := oB H
 obtain ⟨⟨t292, t293, t294⟩, A30, H⟩ := H
 replace H : (if t292 = true then ((pascalineref01_Text.f a0_1).bind fun t295 => (if 1 + t295.size ≤ 9223372036854775807 then (if ([] : List ByteArray).length < 8796093022208 then (pascalineref02_Fields.j0 k t293 t294 (([] : List ByteArray) ++ [(⟨#[114]⟩ : ByteArray) ++ t295]) a0_0 a0_1 a0_2 a0_3 a0_4) else (none)) else (none))) else (pascalineref02_Fields.j0 k t293 t294 ([] : List ByteArray) a0_0 a0_1 a0_2 a0_3 a0_4)) = some r := H
 have A3 := mK A30
 clear A30
 have HC4 := mK H
 clear H
 go_enter Try.func55, Try.ntmps55
 go_upto_if 17 with (first | ((with_reducible refine gate_dst (N := 1) rfl ?_); refine box_event ?hg (N := 1) ?hd (cs := #[.int .i64 a0_0, .int .i64 a0_1, .int .i64 a0_2, .int .i64 a0_3, .int .i64 a0_4]) (t := 102) ?hr ?_; (case hd => rfl); (case hg => rfl); (case hr => first | (go_simp; done) | (go_simp; rfl)); intro gb290 hg w5 hbox hb; have n0_ := mK (bP (by repeat (first | (with_reducible first | exact HB.out | apply bA | apply bN | apply bD) | exact HB.out)) hb); have n1_ := mK (hbox); have n2_ := mK ((by rw [hg]; exact (bZ (by repeat (first | (with_reducible first | exact HB.out | apply bA | apply bN | apply bD) | exact HB.out))) : w.heap.size ≤ gb290)); have n3_ := mK ((by rw [hg]; exact (bZ (by repeat (first | (with_reducible first | exact HB.out | apply bA | apply bN | apply bD) | exact HB.out))) : w.heap.size ≤ gb290)); clear HB; have HB := n0_; have BK290 := n1_; have GW290 := n2_; have GE290 := n3_; clear n0_ n1_ n2_ n3_; clear hb hbox hg; obtain ⟨hcz6_0, hcz6_1, hcz6_2, hcz6_3, hcz6_4, hfz6_0, hfz6_1, hfz6_2, hfz6_3, hfz6_4⟩ := cf5 BK290.out) | ((with_reducible refine gate_callee (f := 49) rfl ?_); refine goesL_ (some 12) rfl rfl Try.func49 (by kernel_rfl) rfl #[.int .i64 a0_0] rfl (by (try simp only [List.map_toArray, List.map_cons, List.map_nil]); first | done | rfl) ?_; (with_reducible refine (pascalineref02_Shape.calls k a0_0 t291 _ A2.out).mono ?_); rintro e w' ⟨rfl, ⟨nd, rfl⟩⟩; refine ⟨_, rfl, ?_⟩) | ((with_reducible refine gate_callee (f := 50) rfl ?_); refine goesL_ (some 13) rfl rfl Try.func50 (by kernel_rfl) rfl #[.int .i64 t291] rfl (by (try simp only [List.map_toArray, List.map_cons, List.map_nil]); first | done | rfl) ?_; (with_reducible refine (pascalineref02_has.calls t291 t292 t293 t294 _ A3.out).mono ?_); rintro e w' ⟨rfl, ⟨nd, rfl⟩⟩; refine ⟨_, rfl, ?_⟩))
 (try simp only [Act.put, List.setIfInBounds_toArray, List.set_cons_zero, List.set_cons_succ])
 go_cut [6] (fun v6 wc => ∃ (kq : Nat) (x6_3 : List ByteArray), Aside0 (pascalineref02_Fields.j0 kq t293 t294 x6_3 a0_0 a0_1 a0_2 a0_3 a0_4 = some r) ∧ Aside0 (kq ≤ k) ∧ Aside0 (Kd.R Kd.string 9 wc w.heap.size (fun _ => True) v6 x6_3) ∧ Aside0 (wc.heap[gb290]? = some (o5 a0_0 a0_1 a0_2 a0_3 a0_4 102)) ∧ Aside0 (Below w.heap.size w wc))
 case first =>
  have H := HC4.out
  clear HC4
  by_cases c7 : t292 = true
  ·
   subst c7
   have H1 : ((pascalineref01_Text.f a0_1).bind fun t295 => (if 1 + t295.size ≤ 9223372036854775807 then (if ([] : List ByteArray).length < 8796093022208 then (pascalineref02_Fields.j0 k t293 t294 (([] : List ByteArray) ++ [(⟨#[114]⟩ : ByteArray) ++ t295]) a0_0 a0_1 a0_2 a0_3 a0_4) else (none)) else (none))) = some r := by rw [if_pos rfl] at H; exact H
   clear H
   have H := H1
   clear H1
   replace H := oB H
   obtain ⟨t295, A80, H⟩ := H
   replace H : (if 1 + t295.size ≤ 9223372036854775807 then (if ([] : List ByteArray).length < 8796093022208 then (pascalineref02_Fields.j0 k t293 t294 (([] : List ByteArray) ++ [(⟨#[114]⟩ : ByteArray) ++ t295]) a0_0 a0_1 a0_2 a0_3 a0_4) else (none)) else (none)) = some r := H
   have A8 := mK A80
   clear A80
   by_cases c9 : 1 + t295.size ≤ 9223372036854775807
   ·
    rw [if_pos c9] at H
    have c9b0 := eq_true c9
    have c9b1 : decide (1 + t295.size ≤ 9223372036854775807) = true := decide_eq_true c9
    try have c9b2 : (9223372036854775807 < 1 + t295.size) = False := eq_false (Nat.not_lt.2 c9)
    by_cases c10 : ([] : List ByteArray).length < 8796093022208
    ·
     rw [if_pos c10] at H
     have LMc10 := mK c10
     clear c10
     obtain ⟨y296, hy296⟩ : ∃ y_ : List ByteArray, y_ = (([] : List ByteArray) ++ [(⟨#[114]⟩ : ByteArray) ++ t295]) := ⟨_, rfl⟩
     replace H : (pascalineref02_Fields.j0 k t293 t294 y296 a0_0 a0_1 a0_2 a0_3 a0_4) = some r := by first | (rw [hy296]; with_reducible exact H) | (have H2_ := (Option.bind_some _ _).symm.trans H; rw [hy296]; with_reducible exact H2_) | (have H2_ := (Option.bind_some _ _).symm.trans H; with_reducible exact H2_) | with_reducible exact H | (rw [hy296]; exact H) | exact H
     have Ny296 := mK hy296
     clear hy296
     have H' := mK H
     clear H
     obtain ⟨hcz11_0, hcz11_1, hcz11_2, hcz11_3, hcz11_4, hfz11_0, hfz11_1, hfz11_2, hfz11_3, hfz11_4⟩ := cf5 BK290.out
     go_wp2_with (first | ((with_reducible refine gate_callee (f := 22) rfl ?_); refine goesL_ (some 21) rfl rfl Try.func22 (by kernel_rfl) rfl #[.int .i64 a0_1] rfl (by (try simp only [List.map_toArray, List.map_cons, List.map_nil]); first | done | rfl) ?_; (with_reducible refine (pascalineref01_Text.calls a0_1 t295 _ A8.out).mono ?_); rintro e w12 ⟨rfl, hb⟩; refine ⟨_, rfl, ?_⟩; have n0_ := mK (kB (g := gb290) (o := o5 a0_0 a0_1 a0_2 a0_3 a0_4 102) (by (with_reducible repeat (first | refine kN ?_ _ | refine kD ?_ | refine kA ?_ _)); exact BK290.out) hb); have n1_ := mK (bP (by repeat (first | (with_reducible first | exact HB.out | apply bA | apply bN | apply bD | refine bS ?_ GE290.out) | exact HB.out)) hb); clear BK290; clear HB; have BK290 := n0_; have HB := n1_; clear n0_ n1_; (try clear hb); (try clear hk)) | ((with_reducible refine gate_builtin (b := .append) (xs := #[.tmp 18, .tmp 23]) rfl ?_); at_builtin; refine Kd.R_append Kd.string (w0 := w) w.heap.size rfl (.tmp 18) (.tmp 23) 22 9 (.string ⟨#[]⟩) 16 rfl Try.underlying22 info9 rfl (by decide) (by omega) (.slice none 0 0) ([] : List ByteArray) ((⟨#[114]⟩ : ByteArray) ++ t295) [.string ((⟨#[114]⟩ : ByteArray) ++ t295)] (fun _ => True) (fun _ => False) rfl rfl ?aP (fun _ hk => hk.elim) ?aF ?aO ?aB ?aS ?aL ?_; (case aP => exact rfl); (case aB => exact (by repeat (first | (with_reducible first | exact HB.out | apply bA | apply bN | apply bD | refine bS ?_ GE290.out) | exact HB.out))); (case aF => exact (fun _ _ => trivial)); (case aO => exact ((Kd.R_nil _ _ _ _ (fun _ => True)))); (case aS => exact (bZ (by repeat (first | (with_reducible first | exact HB.out | apply bA | apply bN | apply bD | refine bS ?_ GE290.out) | exact HB.out)))); (case aL => have := LMc10.out; omega); intro v297 w13 ho hb hg hat; rw [← Ny296.out] at ho; have n0_ := mK (blk_grown (g := gb290) (o := o5 a0_0 a0_1 a0_2 a0_3 a0_4 102) (by (with_reducible repeat (first | refine kN ?_ _ | refine kD ?_ | refine kA ?_ _)); exact BK290.out) hg (by simp [Value.ownBlock])); have n1_ := mK (hb); have n2_ := mK (ho); clear BK290; clear HB; have BK290 := n0_; have HB := n1_; have HO298 := n2_; clear n0_ n1_ n2_; clear ho hb hg hat))
     go_meet
     case rel => exact ⟨_, (y296), H', ⟨by first | omega | exact Nat.le_refl _⟩, ⟨by (with_reducible repeat (first | apply Kd.R_alloc | apply Kd.R_drewN | apply Kd.R_drew)); exact HO298.out⟩, ⟨by (with_reducible repeat (first | refine kN ?_ _ | refine kD ?_ | refine kA ?_ _)); exact BK290.out⟩, ⟨by repeat (first | (with_reducible first | exact HB.out | apply bA | apply bN | apply bD | refine bS ?_ GE290.out) | exact HB.out)⟩⟩
    ·
     rw [if_neg c10] at H
     exact absurd H (by simp)
   ·
    rw [if_neg c9] at H
    exact absurd H (by simp)
  ·
   replace c7 := Bool.eq_false_iff.mpr c7
   subst c7
   have H1 : (pascalineref02_Fields.j0 k t293 t294 ([] : List ByteArray) a0_0 a0_1 a0_2 a0_3 a0_4) = some r := by rw [if_neg (show ¬ (false = true) by decide)] at H; exact H
   clear H
   have H := H1
   clear H1
   have H' := mK H
   clear H
   go_wp2
   go_meet
   case rel => exact ⟨_, (([] : List ByteArray)), H', ⟨by first | omega | exact Nat.le_refl _⟩, ⟨by first | exact Kd.R_nil _ _ _ _ _ | exact Kd.N_nil _ _ _ _ _ | exact Kd.V_nil _ _ _ _ _ | exact Kd.Q_nil _ _ _ _ _ | exact Kd.S_nil _ _ _ _ _⟩, ⟨by (with_reducible repeat (first | refine kN ?_ _ | refine kD ?_ | refine kA ?_ _)); exact BK290.out⟩, ⟨by repeat (first | (with_reducible first | exact HB.out | apply bA | apply bN | apply bD | refine bS ?_ GE290.out) | exact HB.out)⟩⟩
 case rest =>
  clear HC4
  (try clear hcz6_0); (try clear hcz6_1); (try clear hcz6_2); (try clear hcz6_3); (try clear hcz6_4); (try clear hfz6_0); (try clear hfz6_1); (try clear hfz6_2); (try clear hfz6_3); (try clear hfz6_4)
  obtain ⟨kq, x6_3, HA, HJ3, HO_6, BK290, HB⟩ := hcut
  cases kq with
  | zero => exact absurd HA.out (by simp [pascalineref02_Fields.j0])
  | succ kj3 =>
   have H := HA.out
   clear HA
   simp only [pascalineref02_Fields.j0] at H
   have HC14 := mK H
   clear H
   go_upto_if 25 with (fail)
   go_cut [6] (fun v6 wc => ∃ (kq : Nat) (x6_13 : List ByteArray), Aside0 (pascalineref02_Fields.j1 kq t294 x6_13 a0_0 a0_1 a0_2 a0_3 a0_4 = some r) ∧ Aside0 (kq ≤ kj3) ∧ Aside0 (Kd.R Kd.string 9 wc w.heap.size (fun _ => True) v6 x6_13) ∧ Aside0 (wc.heap[gb290]? = some (o5 a0_0 a0_1 a0_2 a0_3 a0_4 102)) ∧ Aside0 (Below w.heap.size w wc))
   case first =>
    have H := HC14.out
    clear HC14
    by_cases c15 : t293 = true
    ·
     subst c15
     have H1 : ((pascalineref01_Text.f a0_2).bind fun t299 => (if 1 + t299.size ≤ 9223372036854775807 then (if a0_0 = 26 then ((pascalineref01_Text.f a0_2).bind fun t300 => (if x6_3.length < 8796093022208 then (pascalineref02_Fields.j1 kj3 t294 (x6_3 ++ [t300]) a0_0 a0_1 a0_2 a0_3 a0_4) else (none))) else (if x6_3.length < 8796093022208 then (pascalineref02_Fields.j1 kj3 t294 (x6_3 ++ [(⟨#[114]⟩ : ByteArray) ++ t299]) a0_0 a0_1 a0_2 a0_3 a0_4) else (none))) else (none))) = some r := by rw [if_pos rfl] at H; exact H
     clear H
     have H := H1
     clear H1
     replace H := oB H
     obtain ⟨t299, A160, H⟩ := H
     replace H : (if 1 + t299.size ≤ 9223372036854775807 then (if a0_0 = 26 then ((pascalineref01_Text.f a0_2).bind fun t300 => (if x6_3.length < 8796093022208 then (pascalineref02_Fields.j1 kj3 t294 (x6_3 ++ [t300]) a0_0 a0_1 a0_2 a0_3 a0_4) else (none))) else (if x6_3.length < 8796093022208 then (pascalineref02_Fields.j1 kj3 t294 (x6_3 ++ [(⟨#[114]⟩ : ByteArray) ++ t299]) a0_0 a0_1 a0_2 a0_3 a0_4) else (none))) else (none)) = some r := H
     have A16 := mK A160
     clear A160
     by_cases c17 : 1 + t299.size ≤ 9223372036854775807
     ·
      rw [if_pos c17] at H
      have c17b0 := eq_true c17
      have c17b1 : decide (1 + t299.size ≤ 9223372036854775807) = true := decide_eq_true c17
      try have c17b2 : (9223372036854775807 < 1 + t299.size) = False := eq_false (Nat.not_lt.2 c17)
      by_cases c18 : a0_0 = 26
      ·
       rw [if_pos c18] at H
       have c18b0 : (a0_0 == 26) = true := beq_iff_eq.mpr c18
       have c18b1 : (a0_0 != 26) = false := bR c18
       clear c18
       (first | rw [c18b0] | (simp only [i64_w, i32_w]; rw [c18b0]) | skip)
       replace H := oB H
       obtain ⟨t300, A190, H⟩ := H
       replace H : (if x6_3.length < 8796093022208 then (pascalineref02_Fields.j1 kj3 t294 (x6_3 ++ [t300]) a0_0 a0_1 a0_2 a0_3 a0_4) else (none)) = some r := H
       have A19 := mK A190
       clear A190
       by_cases c20 : x6_3.length < 8796093022208
       ·
        rw [if_pos c20] at H
        have LMc20 := mK c20
        clear c20
        obtain ⟨y301, hy301⟩ : ∃ y_ : List ByteArray, y_ = (x6_3 ++ [t300]) := ⟨_, rfl⟩
        replace H : (pascalineref02_Fields.j1 kj3 t294 y301 a0_0 a0_1 a0_2 a0_3 a0_4) = some r := by first | (rw [hy301]; with_reducible exact H) | (have H2_ := (Option.bind_some _ _).symm.trans H; rw [hy301]; with_reducible exact H2_) | (have H2_ := (Option.bind_some _ _).symm.trans H; with_reducible exact H2_) | with_reducible exact H | (rw [hy301]; exact H) | exact H
        have Ny301 := mK hy301
        clear hy301
        have H' := mK H
        clear H
        obtain ⟨hcz21_0, hcz21_1, hcz21_2, hcz21_3, hcz21_4, hfz21_0, hfz21_1, hfz21_2, hfz21_3, hfz21_4⟩ := cf5 BK290.out
        go_wp2_with (first | ((with_reducible refine gate_callee (f := 22) rfl ?_); refine goesL_ (some 28) rfl rfl Try.func22 (by kernel_rfl) rfl #[.int .i64 a0_2] rfl (by (try simp only [List.map_toArray, List.map_cons, List.map_nil]); first | done | rfl) ?_; (with_reducible refine (pascalineref01_Text.calls a0_2 t299 _ A16.out).mono ?_); rintro e w22 ⟨rfl, hb⟩; refine ⟨_, rfl, ?_⟩; have n0_ := mK (Kd.R_below (by (with_reducible repeat (first | apply Kd.R_alloc | apply Kd.R_drewN | apply Kd.R_drew)); exact HO_6.out) hb); have n1_ := mK (kB (g := gb290) (o := o5 a0_0 a0_1 a0_2 a0_3 a0_4 102) (by (with_reducible repeat (first | refine kN ?_ _ | refine kD ?_ | refine kA ?_ _)); exact BK290.out) hb); have n2_ := mK (bP (by repeat (first | (with_reducible first | exact HB.out | apply bA | apply bN | apply bD | refine bS ?_ GE290.out) | exact HB.out)) hb); clear HO_6; clear BK290; clear HB; have HO_6 := n0_; have BK290 := n1_; have HB := n2_; clear n0_ n1_ n2_; (try clear hb); (try clear hk); obtain ⟨hcz23_0, hcz23_1, hcz23_2, hcz23_3, hcz23_4, hfz23_0, hfz23_1, hfz23_2, hfz23_3, hfz23_4⟩ := cf5 BK290.out) | ((with_reducible refine gate_callee (f := 22) rfl ?_); refine goesL_ (some 35) rfl rfl Try.func22 (by kernel_rfl) rfl #[.int .i64 a0_2] rfl (by (try simp only [List.map_toArray, List.map_cons, List.map_nil]); first | done | rfl) ?_; (with_reducible refine (pascalineref01_Text.calls a0_2 t300 _ A19.out).mono ?_); rintro e w24 ⟨rfl, hb⟩; refine ⟨_, rfl, ?_⟩; have n0_ := mK (Kd.R_below (by (with_reducible repeat (first | apply Kd.R_alloc | apply Kd.R_drewN | apply Kd.R_drew)); exact HO_6.out) hb); have n1_ := mK (kB (g := gb290) (o := o5 a0_0 a0_1 a0_2 a0_3 a0_4 102) (by (with_reducible repeat (first | refine kN ?_ _ | refine kD ?_ | refine kA ?_ _)); exact BK290.out) hb); have n2_ := mK (bP (by repeat (first | (with_reducible first | exact HB.out | apply bA | apply bN | apply bD | refine bS ?_ GE290.out) | exact HB.out)) hb); clear HO_6; clear BK290; clear HB; have HO_6 := n0_; have BK290 := n1_; have HB := n2_; clear n0_ n1_ n2_; (try clear hb); (try clear hk)) | ((with_reducible refine gate_builtin (b := .append) (xs := #[.tmp 36, .tmp 38]) rfl ?_); at_builtin; refine Kd.R_append Kd.string (w0 := w) w.heap.size rfl (.tmp 36) (.tmp 38) 22 9 (.string ⟨#[]⟩) 16 rfl Try.underlying22 info9 rfl (by decide) (by omega) u6 x6_3 t300 [.string t300] (fun _ => True) (fun _ => False) rfl rfl ?aP (fun _ hk => hk.elim) ?aF ?aO ?aB ?aS ?aL ?_; (case aP => exact rfl); (case aB => exact (by repeat (first | (with_reducible first | exact HB.out | apply bA | apply bN | apply bD | refine bS ?_ GE290.out) | exact HB.out))); (case aF => exact (fun _ _ => trivial)); (case aO => exact (by (with_reducible repeat (first | apply Kd.R_alloc | apply Kd.R_drewN | apply Kd.R_drew)); exact HO_6.out)); (case aS => exact (bZ (by repeat (first | (with_reducible first | exact HB.out | apply bA | apply bN | apply bD | refine bS ?_ GE290.out) | exact HB.out)))); (case aL => have := LMc20.out; omega); intro v302 w25 ho hb hg hat; rw [← Ny301.out] at ho; have n0_ := mK (blk_grown (g := gb290) (o := o5 a0_0 a0_1 a0_2 a0_3 a0_4 102) (by (with_reducible repeat (first | refine kN ?_ _ | refine kD ?_ | refine kA ?_ _)); exact BK290.out) hg (Kd.R_ne HO_6.out BK290.out (by decide))); have n1_ := mK (hb); have n2_ := mK (ho); clear BK290; clear HB; clear HO_6; have BK290 := n0_; have HB := n1_; have HO303 := n2_; clear n0_ n1_ n2_; clear ho hb hg hat))
        go_meet
        case rel => exact ⟨_, (y301), H', ⟨by have := HJ3.out; first | omega | exact Nat.le_refl _⟩, ⟨by (with_reducible repeat (first | apply Kd.R_alloc | apply Kd.R_drewN | apply Kd.R_drew)); exact HO303.out⟩, ⟨by (with_reducible repeat (first | refine kN ?_ _ | refine kD ?_ | refine kA ?_ _)); exact BK290.out⟩, ⟨by repeat (first | (with_reducible first | exact HB.out | apply bA | apply bN | apply bD | refine bS ?_ GE290.out) | exact HB.out)⟩⟩
       ·
        rw [if_neg c20] at H
        exact absurd H (by simp)
      ·
       rw [if_neg c18] at H
       have c18b0 : (a0_0 == 26) = false := bQ c18
       have c18b1 : (a0_0 != 26) = true := bne_iff_ne.mpr c18
       (first | rw [c18b0] | (simp only [i64_w, i32_w]; rw [c18b0]) | skip)
       by_cases c26 : x6_3.length < 8796093022208
       ·
        rw [if_pos c26] at H
        have LMc26 := mK c26
        clear c26
        obtain ⟨y304, hy304⟩ : ∃ y_ : List ByteArray, y_ = (x6_3 ++ [(⟨#[114]⟩ : ByteArray) ++ t299]) := ⟨_, rfl⟩
        replace H : (pascalineref02_Fields.j1 kj3 t294 y304 a0_0 a0_1 a0_2 a0_3 a0_4) = some r := by first | (rw [hy304]; with_reducible exact H) | (have H2_ := (Option.bind_some _ _).symm.trans H; rw [hy304]; with_reducible exact H2_) | (have H2_ := (Option.bind_some _ _).symm.trans H; with_reducible exact H2_) | with_reducible exact H | (rw [hy304]; exact H) | exact H
        have Ny304 := mK hy304
        clear hy304
        have H' := mK H
        clear H
        obtain ⟨hcz27_0, hcz27_1, hcz27_2, hcz27_3, hcz27_4, hfz27_0, hfz27_1, hfz27_2, hfz27_3, hfz27_4⟩ := cf5 BK290.out
        go_wp2_with (first | ((with_reducible refine gate_callee (f := 22) rfl ?_); refine goesL_ (some 28) rfl rfl Try.func22 (by kernel_rfl) rfl #[.int .i64 a0_2] rfl (by (try simp only [List.map_toArray, List.map_cons, List.map_nil]); first | done | rfl) ?_; (with_reducible refine (pascalineref01_Text.calls a0_2 t299 _ A16.out).mono ?_); rintro e w28 ⟨rfl, hb⟩; refine ⟨_, rfl, ?_⟩; have n0_ := mK (Kd.R_below (by (with_reducible repeat (first | apply Kd.R_alloc | apply Kd.R_drewN | apply Kd.R_drew)); exact HO_6.out) hb); have n1_ := mK (kB (g := gb290) (o := o5 a0_0 a0_1 a0_2 a0_3 a0_4 102) (by (with_reducible repeat (first | refine kN ?_ _ | refine kD ?_ | refine kA ?_ _)); exact BK290.out) hb); have n2_ := mK (bP (by repeat (first | (with_reducible first | exact HB.out | apply bA | apply bN | apply bD | refine bS ?_ GE290.out) | exact HB.out)) hb); clear HO_6; clear BK290; clear HB; have HO_6 := n0_; have BK290 := n1_; have HB := n2_; clear n0_ n1_ n2_; (try clear hb); (try clear hk); obtain ⟨hcz29_0, hcz29_1, hcz29_2, hcz29_3, hcz29_4, hfz29_0, hfz29_1, hfz29_2, hfz29_3, hfz29_4⟩ := cf5 BK290.out) | ((with_reducible refine gate_builtin (b := .append) (xs := #[.tmp 36, .tmp 38]) rfl ?_); at_builtin; refine Kd.R_append Kd.string (w0 := w) w.heap.size rfl (.tmp 36) (.tmp 38) 22 9 (.string ⟨#[]⟩) 16 rfl Try.underlying22 info9 rfl (by decide) (by omega) u6 x6_3 ((⟨#[114]⟩ : ByteArray) ++ t299) [.string ((⟨#[114]⟩ : ByteArray) ++ t299)] (fun _ => True) (fun _ => False) rfl rfl ?aP (fun _ hk => hk.elim) ?aF ?aO ?aB ?aS ?aL ?_; (case aP => exact rfl); (case aB => exact (by repeat (first | (with_reducible first | exact HB.out | apply bA | apply bN | apply bD | refine bS ?_ GE290.out) | exact HB.out))); (case aF => exact (fun _ _ => trivial)); (case aO => exact (by (with_reducible repeat (first | apply Kd.R_alloc | apply Kd.R_drewN | apply Kd.R_drew)); exact HO_6.out)); (case aS => exact (bZ (by repeat (first | (with_reducible first | exact HB.out | apply bA | apply bN | apply bD | refine bS ?_ GE290.out) | exact HB.out)))); (case aL => have := LMc26.out; omega); intro v305 w30 ho hb hg hat; rw [← Ny304.out] at ho; have n0_ := mK (blk_grown (g := gb290) (o := o5 a0_0 a0_1 a0_2 a0_3 a0_4 102) (by (with_reducible repeat (first | refine kN ?_ _ | refine kD ?_ | refine kA ?_ _)); exact BK290.out) hg (Kd.R_ne HO_6.out BK290.out (by decide))); have n1_ := mK (hb); have n2_ := mK (ho); clear BK290; clear HB; clear HO_6; have BK290 := n0_; have HB := n1_; have HO306 := n2_; clear n0_ n1_ n2_; clear ho hb hg hat))
        go_meet
        case rel => exact ⟨_, (y304), H', ⟨by have := HJ3.out; first | omega | exact Nat.le_refl _⟩, ⟨by (with_reducible repeat (first | apply Kd.R_alloc | apply Kd.R_drewN | apply Kd.R_drew)); exact HO306.out⟩, ⟨by (with_reducible repeat (first | refine kN ?_ _ | refine kD ?_ | refine kA ?_ _)); exact BK290.out⟩, ⟨by repeat (first | (with_reducible first | exact HB.out | apply bA | apply bN | apply bD | refine bS ?_ GE290.out) | exact HB.out)⟩⟩
       ·
        rw [if_neg c26] at H
        exact absurd H (by simp)
     ·
      rw [if_neg c17] at H
      exact absurd H (by simp)
    ·
     replace c15 := Bool.eq_false_iff.mpr c15
     subst c15
     have H1 : (pascalineref02_Fields.j1 kj3 t294 x6_3 a0_0 a0_1 a0_2 a0_3 a0_4) = some r := by rw [if_neg (show ¬ (false = true) by decide)] at H; exact H
     clear H
     have H := H1
     clear H1
     have H' := mK H
     clear H
     go_wp2
     go_meet
     case rel => exact ⟨_, (x6_3), H', ⟨by have := HJ3.out; first | omega | exact Nat.le_refl _⟩, ⟨by (with_reducible repeat (first | apply Kd.R_alloc | apply Kd.R_drewN | apply Kd.R_drew)); exact HO_6.out⟩, ⟨by (with_reducible repeat (first | refine kN ?_ _ | refine kD ?_ | refine kA ?_ _)); exact BK290.out⟩, ⟨by repeat (first | (with_reducible first | exact HB.out | apply bA | apply bN | apply bD | refine bS ?_ GE290.out) | exact HB.out)⟩⟩
   case rest =>
    clear HC14
    (try clear hcz6_0); (try clear hcz6_1); (try clear hcz6_2); (try clear hcz6_3); (try clear hcz6_4); (try clear hfz6_0); (try clear hfz6_1); (try clear hfz6_2); (try clear hfz6_3); (try clear hfz6_4)
    obtain ⟨kq, x6_13, HA, HJ13, HO_6, BK290, HB⟩ := hcut
    cases kq with
    | zero => exact absurd HA.out (by simp [pascalineref02_Fields.j1])
    | succ kj13 =>
     have H := HA.out
     clear HA
     simp only [pascalineref02_Fields.j1] at H
     have HC31 := mK H
     clear H
     go_upto_if 40 with (fail)
     go_cut [6] (fun v6 wc => ∃ (kq : Nat) (x6_30 : List ByteArray), Aside0 (pascalineref02_Fields.j2 kq x6_30 a0_0 a0_1 a0_2 a0_3 a0_4 = some r) ∧ Aside0 (kq ≤ kj13) ∧ Aside0 (Kd.R Kd.string 9 wc w.heap.size (fun _ => True) v6 x6_30) ∧ Aside0 (wc.heap[gb290]? = some (o5 a0_0 a0_1 a0_2 a0_3 a0_4 102)) ∧ Aside0 (Below w.heap.size w wc))
     case first =>
      have H := HC31.out
      clear HC31
      by_cases c32 : t294 = true
      ·
       subst c32
       have H1 : ((pascalineref01_Text.f a0_3).bind fun t307 => (if 1 + t307.size ≤ 9223372036854775807 then (if x6_13.length < 8796093022208 then (pascalineref02_Fields.j2 kj13 (x6_13 ++ [(⟨#[114]⟩ : ByteArray) ++ t307]) a0_0 a0_1 a0_2 a0_3 a0_4) else (none)) else (none))) = some r := by rw [if_pos rfl] at H; exact H
       clear H
       have H := H1
       clear H1
       replace H := oB H
       obtain ⟨t307, A330, H⟩ := H
       replace H : (if 1 + t307.size ≤ 9223372036854775807 then (if x6_13.length < 8796093022208 then (pascalineref02_Fields.j2 kj13 (x6_13 ++ [(⟨#[114]⟩ : ByteArray) ++ t307]) a0_0 a0_1 a0_2 a0_3 a0_4) else (none)) else (none)) = some r := H
       have A33 := mK A330
       clear A330
       by_cases c34 : 1 + t307.size ≤ 9223372036854775807
       ·
        rw [if_pos c34] at H
        have c34b0 := eq_true c34
        have c34b1 : decide (1 + t307.size ≤ 9223372036854775807) = true := decide_eq_true c34
        try have c34b2 : (9223372036854775807 < 1 + t307.size) = False := eq_false (Nat.not_lt.2 c34)
        by_cases c35 : x6_13.length < 8796093022208
        ·
         rw [if_pos c35] at H
         have LMc35 := mK c35
         clear c35
         obtain ⟨y308, hy308⟩ : ∃ y_ : List ByteArray, y_ = (x6_13 ++ [(⟨#[114]⟩ : ByteArray) ++ t307]) := ⟨_, rfl⟩
         replace H : (pascalineref02_Fields.j2 kj13 y308 a0_0 a0_1 a0_2 a0_3 a0_4) = some r := by first | (rw [hy308]; with_reducible exact H) | (have H2_ := (Option.bind_some _ _).symm.trans H; rw [hy308]; with_reducible exact H2_) | (have H2_ := (Option.bind_some _ _).symm.trans H; with_reducible exact H2_) | with_reducible exact H | (rw [hy308]; exact H) | exact H
         have Ny308 := mK hy308
         clear hy308
         have H' := mK H
         clear H
         obtain ⟨hcz36_0, hcz36_1, hcz36_2, hcz36_3, hcz36_4, hfz36_0, hfz36_1, hfz36_2, hfz36_3, hfz36_4⟩ := cf5 BK290.out
         go_wp2_with (first | ((with_reducible refine gate_callee (f := 22) rfl ?_); refine goesL_ (some 44) rfl rfl Try.func22 (by kernel_rfl) rfl #[.int .i64 a0_3] rfl (by (try simp only [List.map_toArray, List.map_cons, List.map_nil]); first | done | rfl) ?_; (with_reducible refine (pascalineref01_Text.calls a0_3 t307 _ A33.out).mono ?_); rintro e w37 ⟨rfl, hb⟩; refine ⟨_, rfl, ?_⟩; have n0_ := mK (Kd.R_below (by (with_reducible repeat (first | apply Kd.R_alloc | apply Kd.R_drewN | apply Kd.R_drew)); exact HO_6.out) hb); have n1_ := mK (kB (g := gb290) (o := o5 a0_0 a0_1 a0_2 a0_3 a0_4 102) (by (with_reducible repeat (first | refine kN ?_ _ | refine kD ?_ | refine kA ?_ _)); exact BK290.out) hb); have n2_ := mK (bP (by repeat (first | (with_reducible first | exact HB.out | apply bA | apply bN | apply bD | refine bS ?_ GE290.out) | exact HB.out)) hb); clear HO_6; clear BK290; clear HB; have HO_6 := n0_; have BK290 := n1_; have HB := n2_; clear n0_ n1_ n2_; (try clear hb); (try clear hk)) | ((with_reducible refine gate_builtin (b := .append) (xs := #[.tmp 41, .tmp 46]) rfl ?_); at_builtin; refine Kd.R_append Kd.string (w0 := w) w.heap.size rfl (.tmp 41) (.tmp 46) 22 9 (.string ⟨#[]⟩) 16 rfl Try.underlying22 info9 rfl (by decide) (by omega) u6 x6_13 ((⟨#[114]⟩ : ByteArray) ++ t307) [.string ((⟨#[114]⟩ : ByteArray) ++ t307)] (fun _ => True) (fun _ => False) rfl rfl ?aP (fun _ hk => hk.elim) ?aF ?aO ?aB ?aS ?aL ?_; (case aP => exact rfl); (case aB => exact (by repeat (first | (with_reducible first | exact HB.out | apply bA | apply bN | apply bD | refine bS ?_ GE290.out) | exact HB.out))); (case aF => exact (fun _ _ => trivial)); (case aO => exact (by (with_reducible repeat (first | apply Kd.R_alloc | apply Kd.R_drewN | apply Kd.R_drew)); exact HO_6.out)); (case aS => exact (bZ (by repeat (first | (with_reducible first | exact HB.out | apply bA | apply bN | apply bD | refine bS ?_ GE290.out) | exact HB.out)))); (case aL => have := LMc35.out; omega); intro v309 w38 ho hb hg hat; rw [← Ny308.out] at ho; have n0_ := mK (blk_grown (g := gb290) (o := o5 a0_0 a0_1 a0_2 a0_3 a0_4 102) (by (with_reducible repeat (first | refine kN ?_ _ | refine kD ?_ | refine kA ?_ _)); exact BK290.out) hg (Kd.R_ne HO_6.out BK290.out (by decide))); have n1_ := mK (hb); have n2_ := mK (ho); clear BK290; clear HB; clear HO_6; have BK290 := n0_; have HB := n1_; have HO310 := n2_; clear n0_ n1_ n2_; clear ho hb hg hat))
         go_meet
         case rel => exact ⟨_, (y308), H', ⟨by have := HJ3.out; have := HJ13.out; first | omega | exact Nat.le_refl _⟩, ⟨by (with_reducible repeat (first | apply Kd.R_alloc | apply Kd.R_drewN | apply Kd.R_drew)); exact HO310.out⟩, ⟨by (with_reducible repeat (first | refine kN ?_ _ | refine kD ?_ | refine kA ?_ _)); exact BK290.out⟩, ⟨by repeat (first | (with_reducible first | exact HB.out | apply bA | apply bN | apply bD | refine bS ?_ GE290.out) | exact HB.out)⟩⟩
        ·
         rw [if_neg c35] at H
         exact absurd H (by simp)
       ·
        rw [if_neg c34] at H
        exact absurd H (by simp)
      ·
       replace c32 := Bool.eq_false_iff.mpr c32
       subst c32
       have H1 : (pascalineref02_Fields.j2 kj13 x6_13 a0_0 a0_1 a0_2 a0_3 a0_4) = some r := by rw [if_neg (show ¬ (false = true) by decide)] at H; exact H
       clear H
       have H := H1
       clear H1
       have H' := mK H
       clear H
       go_wp2
       go_meet
       case rel => exact ⟨_, (x6_13), H', ⟨by have := HJ3.out; have := HJ13.out; first | omega | exact Nat.le_refl _⟩, ⟨by (with_reducible repeat (first | apply Kd.R_alloc | apply Kd.R_drewN | apply Kd.R_drew)); exact HO_6.out⟩, ⟨by (with_reducible repeat (first | refine kN ?_ _ | refine kD ?_ | refine kA ?_ _)); exact BK290.out⟩, ⟨by repeat (first | (with_reducible first | exact HB.out | apply bA | apply bN | apply bD | refine bS ?_ GE290.out) | exact HB.out)⟩⟩
     case rest =>
      clear HC31
      (try clear hcz6_0); (try clear hcz6_1); (try clear hcz6_2); (try clear hcz6_3); (try clear hcz6_4); (try clear hfz6_0); (try clear hfz6_1); (try clear hfz6_2); (try clear hfz6_3); (try clear hfz6_4)
      obtain ⟨kq, x6_30, HA, HJ30, HO_6, BK290, HB⟩ := hcut
      cases kq with
      | zero => exact absurd HA.out (by simp [pascalineref02_Fields.j2])
      | succ kj30 =>
       have H := HA.out
       clear HA
       simp only [pascalineref02_Fields.j2] at H
       replace H := oB H
       obtain ⟨t311, A390, H⟩ := H
       replace H : (if t311 = 0 then (some x6_30) else (if t311 = 5 then (some x6_30) else (if t311 = 6 then (some x6_30) else ((pascalineref01_Text.f a0_4).bind fun t312 => (if x6_30.length < 8796093022208 then (some (x6_30 ++ [t312])) else (none)))))) = some r := H
       have A39 := mK A390
       clear A390
       by_cases c40 : t311 = 0
       ·
        rw [if_pos c40] at H
        have c40b0 : (t311 == 0) = true := beq_iff_eq.mpr c40
        have c40b1 : (t311 != 0) = false := bR c40
        clear c40
        obtain rfl := Option.some.inj H
        obtain ⟨hcz41_0, hcz41_1, hcz41_2, hcz41_3, hcz41_4, hfz41_0, hfz41_1, hfz41_2, hfz41_3, hfz41_4⟩ := cf5 BK290.out
        go_wp2_with (first | ((with_reducible refine gate_callee (f := 49) rfl ?_); refine goesL_ (some 50) rfl rfl Try.func49 (by kernel_rfl) rfl #[.int .i64 a0_0] rfl (by (try simp only [List.map_toArray, List.map_cons, List.map_nil]); first | done | rfl) ?_; (with_reducible refine (pascalineref02_Shape.calls kj30 a0_0 t311 _ A39.out).mono ?_); rintro e w' ⟨rfl, ⟨nd, rfl⟩⟩; refine ⟨_, rfl, ?_⟩))
        go_ret
        exact ⟨_, by first | rfl | (simp [errW_none, errW_some] <;> rfl) | (simp [*, errW_none, errW_some] <;> rfl), by (with_reducible repeat (first | apply Kd.R_alloc | apply Kd.R_drewN | apply Kd.R_drew)); exact HO_6.out, by repeat (first | (with_reducible first | exact HB.out | apply bA | apply bN | apply bD | refine bS ?_ GE290.out) | exact HB.out)⟩
       ·
        rw [if_neg c40] at H
        have c40b0 : (t311 == 0) = false := bQ c40
        have c40b1 : (t311 != 0) = true := bne_iff_ne.mpr c40
        by_cases c42 : t311 = 5
        ·
         rw [if_pos c42] at H
         have c42b0 : (t311 == 5) = true := beq_iff_eq.mpr c42
         have c42b1 : (t311 != 5) = false := bR c42
         clear c42
         obtain rfl := Option.some.inj H
         obtain ⟨hcz43_0, hcz43_1, hcz43_2, hcz43_3, hcz43_4, hfz43_0, hfz43_1, hfz43_2, hfz43_3, hfz43_4⟩ := cf5 BK290.out
         go_wp2_with (first | ((with_reducible refine gate_callee (f := 49) rfl ?_); refine goesL_ (some 50) rfl rfl Try.func49 (by kernel_rfl) rfl #[.int .i64 a0_0] rfl (by (try simp only [List.map_toArray, List.map_cons, List.map_nil]); first | done | rfl) ?_; (with_reducible refine (pascalineref02_Shape.calls kj30 a0_0 t311 _ A39.out).mono ?_); rintro e w' ⟨rfl, ⟨nd, rfl⟩⟩; refine ⟨_, rfl, ?_⟩))
         go_ret
         exact ⟨_, by first | rfl | (simp [errW_none, errW_some] <;> rfl) | (simp [*, errW_none, errW_some] <;> rfl), by (with_reducible repeat (first | apply Kd.R_alloc | apply Kd.R_drewN | apply Kd.R_drew)); exact HO_6.out, by repeat (first | (with_reducible first | exact HB.out | apply bA | apply bN | apply bD | refine bS ?_ GE290.out) | exact HB.out)⟩
        ·
         rw [if_neg c42] at H
         have c42b0 : (t311 == 5) = false := bQ c42
         have c42b1 : (t311 != 5) = true := bne_iff_ne.mpr c42
         by_cases c44 : t311 = 6
         ·
          rw [if_pos c44] at H
          have c44b0 : (t311 == 6) = true := beq_iff_eq.mpr c44
          have c44b1 : (t311 != 6) = false := bR c44
          clear c44
          obtain rfl := Option.some.inj H
          obtain ⟨hcz45_0, hcz45_1, hcz45_2, hcz45_3, hcz45_4, hfz45_0, hfz45_1, hfz45_2, hfz45_3, hfz45_4⟩ := cf5 BK290.out
          go_wp2_with (first | ((with_reducible refine gate_callee (f := 49) rfl ?_); refine goesL_ (some 50) rfl rfl Try.func49 (by kernel_rfl) rfl #[.int .i64 a0_0] rfl (by (try simp only [List.map_toArray, List.map_cons, List.map_nil]); first | done | rfl) ?_; (with_reducible refine (pascalineref02_Shape.calls kj30 a0_0 t311 _ A39.out).mono ?_); rintro e w' ⟨rfl, ⟨nd, rfl⟩⟩; refine ⟨_, rfl, ?_⟩))
          go_ret
          exact ⟨_, by first | rfl | (simp [errW_none, errW_some] <;> rfl) | (simp [*, errW_none, errW_some] <;> rfl), by (with_reducible repeat (first | apply Kd.R_alloc | apply Kd.R_drewN | apply Kd.R_drew)); exact HO_6.out, by repeat (first | (with_reducible first | exact HB.out | apply bA | apply bN | apply bD | refine bS ?_ GE290.out) | exact HB.out)⟩
         ·
          rw [if_neg c44] at H
          have c44b0 : (t311 == 6) = false := bQ c44
          have c44b1 : (t311 != 6) = true := bne_iff_ne.mpr c44
          replace H := oB H
          obtain ⟨t312, A460, H⟩ := H
          replace H : (if x6_30.length < 8796093022208 then (some (x6_30 ++ [t312])) else (none)) = some r := H
          have A46 := mK A460
          clear A460
          by_cases c47 : x6_30.length < 8796093022208
          ·
           rw [if_pos c47] at H
           have LMc47 := mK c47
           clear c47
           obtain ⟨y313, hy313⟩ : ∃ y_ : List ByteArray, y_ = (x6_30 ++ [t312]) := ⟨_, rfl⟩
           replace H : (some y313) = some r := by first | (rw [hy313]; with_reducible exact H) | (have H2_ := (Option.bind_some _ _).symm.trans H; rw [hy313]; with_reducible exact H2_) | (have H2_ := (Option.bind_some _ _).symm.trans H; with_reducible exact H2_) | with_reducible exact H | (rw [hy313]; exact H) | exact H
           have Ny313 := mK hy313
           clear hy313
           obtain rfl := Option.some.inj H
           obtain ⟨hcz48_0, hcz48_1, hcz48_2, hcz48_3, hcz48_4, hfz48_0, hfz48_1, hfz48_2, hfz48_3, hfz48_4⟩ := cf5 BK290.out
           go_wp2_with (first | ((with_reducible refine gate_callee (f := 49) rfl ?_); refine goesL_ (some 50) rfl rfl Try.func49 (by kernel_rfl) rfl #[.int .i64 a0_0] rfl (by (try simp only [List.map_toArray, List.map_cons, List.map_nil]); first | done | rfl) ?_; (with_reducible refine (pascalineref02_Shape.calls kj30 a0_0 t311 _ A39.out).mono ?_); rintro e w' ⟨rfl, ⟨nd, rfl⟩⟩; refine ⟨_, rfl, ?_⟩) | ((with_reducible refine gate_callee (f := 22) rfl ?_); refine goesL_ (some 64) rfl rfl Try.func22 (by kernel_rfl) rfl #[.int .i64 a0_4] rfl (by (try simp only [List.map_toArray, List.map_cons, List.map_nil]); first | done | rfl) ?_; (with_reducible refine (pascalineref01_Text.calls a0_4 t312 _ A46.out).mono ?_); rintro e w49 ⟨rfl, hb⟩; refine ⟨_, rfl, ?_⟩; have n0_ := mK (Kd.R_below (by (with_reducible repeat (first | apply Kd.R_alloc | apply Kd.R_drewN | apply Kd.R_drew)); exact HO_6.out) hb); have n1_ := mK (kB (g := gb290) (o := o5 a0_0 a0_1 a0_2 a0_3 a0_4 102) (by (with_reducible repeat (first | refine kN ?_ _ | refine kD ?_ | refine kA ?_ _)); exact BK290.out) hb); have n2_ := mK (bP (by repeat (first | (with_reducible first | exact HB.out | apply bA | apply bN | apply bD | refine bS ?_ GE290.out) | exact HB.out)) hb); clear HO_6; clear BK290; clear HB; have HO_6 := n0_; have BK290 := n1_; have HB := n2_; clear n0_ n1_ n2_; (try clear hb); (try clear hk)) | ((with_reducible refine gate_builtin (b := .append) (xs := #[.tmp 61, .tmp 65]) rfl ?_); at_builtin; refine Kd.R_append Kd.string (w0 := w) w.heap.size rfl (.tmp 61) (.tmp 65) 22 9 (.string ⟨#[]⟩) 16 rfl Try.underlying22 info9 rfl (by decide) (by omega) u6 x6_30 t312 [.string t312] (fun _ => True) (fun _ => False) rfl rfl ?aP (fun _ hk => hk.elim) ?aF ?aO ?aB ?aS ?aL ?_; (case aP => exact rfl); (case aB => exact (by repeat (first | (with_reducible first | exact HB.out | apply bA | apply bN | apply bD | refine bS ?_ GE290.out) | exact HB.out))); (case aF => exact (fun _ _ => trivial)); (case aO => exact (by (with_reducible repeat (first | apply Kd.R_alloc | apply Kd.R_drewN | apply Kd.R_drew)); exact HO_6.out)); (case aS => exact (bZ (by repeat (first | (with_reducible first | exact HB.out | apply bA | apply bN | apply bD | refine bS ?_ GE290.out) | exact HB.out)))); (case aL => have := LMc47.out; omega); intro v314 w50 ho hb hg hat; rw [← Ny313.out] at ho; have n0_ := mK (blk_grown (g := gb290) (o := o5 a0_0 a0_1 a0_2 a0_3 a0_4 102) (by (with_reducible repeat (first | refine kN ?_ _ | refine kD ?_ | refine kA ?_ _)); exact BK290.out) hg (Kd.R_ne HO_6.out BK290.out (by decide))); have n1_ := mK (hb); have n2_ := mK (ho); clear BK290; clear HB; clear HO_6; have BK290 := n0_; have HB := n1_; have HO315 := n2_; clear n0_ n1_ n2_; clear ho hb hg hat))
           go_ret
           exact ⟨_, by first | rfl | (simp [errW_none, errW_some] <;> rfl) | (simp [*, errW_none, errW_some] <;> rfl), by (with_reducible repeat (first | apply Kd.R_alloc | apply Kd.R_drewN | apply Kd.R_drew)); exact HO315.out, by repeat (first | (with_reducible first | exact HB.out | apply bA | apply bN | apply bD | refine bS ?_ GE290.out) | exact HB.out)⟩
          ·
           rw [if_neg c47] at H
           exact absurd H (by simp)


/-! ### pascalineref02_Text: function 43 -/
def pascalineref02_Text.l0 : Nat → ByteArray → List ByteArray → Int → Option (ByteArray × Int)
 | 0, _, _, _ => none
 | k + 1, x5, x6, x7 => if x7 < (x6.length : Int) then (if x7 > 0 then (if x5.size + 1 ≤ 9223372036854775807 then (if (x5 ++ (⟨#[44]⟩ : ByteArray)).size + 1 ≤ 9223372036854775807 then (if 0 ≤ x7 then (if ((x5 ++ (⟨#[44]⟩ : ByteArray)) ++ (⟨#[32]⟩ : ByteArray)).size + (rdOf ByteArray.empty x6 x7).size ≤ 9223372036854775807 then (pascalineref02_Text.l0 k (((x5 ++ (⟨#[44]⟩ : ByteArray)) ++ (⟨#[32]⟩ : ByteArray)) ++ (rdOf ByteArray.empty x6 x7)) x6 (wrap64 (x7 + 1))) else (none)) else (none)) else (none)) else (none)) else (if x5.size + 1 ≤ 9223372036854775807 then (if 0 ≤ x7 then (if (x5 ++ (⟨#[32]⟩ : ByteArray)).size + (rdOf ByteArray.empty x6 x7).size ≤ 9223372036854775807 then (pascalineref02_Text.l0 k ((x5 ++ (⟨#[32]⟩ : ByteArray)) ++ (rdOf ByteArray.empty x6 x7)) x6 (wrap64 (x7 + 1))) else (none)) else (none)) else (none))) else (some (x5, 0))
def pascalineref02_Text.f (k : Nat) (a0_0 : Int) (a0_1 : Int) (a0_2 : Int) (a0_3 : Int) (a0_4 : Int) : Option (ByteArray × Int) := (pascalineref02_Check.f k a0_0 a0_1 a0_2 a0_3 a0_4).bind fun t317 => (if t317 = 0 then ((pascalineref02_Name.f a0_0).bind fun t318 => ((pascalineref02_Fields.f k a0_0 a0_1 a0_2 a0_3 a0_4).bind fun t319 => (pascalineref02_Text.l0 k t318 t319 0))) else (some ((⟨#[]⟩ : ByteArray), t317)))
theorem pascalineref02_Text.mono_l : ∀ k, (∀ y0 y1 y2, LeO (pascalineref02_Text.l0 k y0 y1 y2) (pascalineref02_Text.l0 (k + 1) y0 y1 y2))
 | 0 => fun _ _ _ r h => by simp [pascalineref02_Text.l0] at h
 | k + 1 => by
  have ih0 := pascalineref02_Text.mono_l k
  ·
   intro y0 y1 y2
   unfold pascalineref02_Text.l0
   repeat' first
   | (with_reducible exact ih0 _ _ _)
   | (with_reducible exact pascalineref02_Check.mono _ _ _ _ _ _)
   | (with_reducible exact pascalineref02_Fields.mono _ _ _ _ _ _)
   | (with_reducible exact LeO.refl _)
   | (with_reducible exact LeO.none _)
   | (with_reducible refine LeO.ite ?_ ?_)
   | (with_reducible refine LeO.bind ?_ (fun _ => ?_))
   | exact LeO.none _
   | refine LeO.ite ?_ ?_
   | refine LeO.bind ?_ (fun _ => ?_)
theorem pascalineref02_Text.mono : ∀ a0 a1 a2 a3 a4 k, LeO (pascalineref02_Text.f k a0 a1 a2 a3 a4) (pascalineref02_Text.f (k + 1) a0 a1 a2 a3 a4) := by
 intro a0 a1 a2 a3 a4 k
 have ih0 := pascalineref02_Text.mono_l k
 unfold pascalineref02_Text.f
 repeat' first
  | (with_reducible exact ih0 _ _ _)
  | (with_reducible exact pascalineref02_Check.mono _ _ _ _ _ _)
  | (with_reducible exact pascalineref02_Fields.mono _ _ _ _ _ _)
  | (with_reducible exact LeO.refl _)
  | (with_reducible exact LeO.none _)
  | (with_reducible refine LeO.ite ?_ ?_)
  | (with_reducible refine LeO.bind ?_ (fun _ => ?_))
  | exact LeO.none _
  | refine LeO.ite ?_ ?_
  | refine LeO.bind ?_ (fun _ => ?_)
set_option maxHeartbeats 8000000 in
set_option maxRecDepth 100000 in
theorem pascalineref02_Text.calls (k : Nat) (a0_0 : Int) (a0_1 : Int) (a0_2 : Int) (a0_3 : Int) (a0_4 : Int) (r1 : ByteArray) (r2 : Int) (w : World) (h : pascalineref02_Text.f k a0_0 a0_1 a0_2 a0_3 a0_4 = some (r1, r2)) :
 Calls Try.prog 43 #[.agg #[.int .i64 a0_0, .int .i64 a0_1, .int .i64 a0_2, .int .i64 a0_3, .int .i64 a0_4]] w fun e w' => e = .returned (.tuple #[.string r1, .int .i64 r2]) ∧ Below w.heap.size w w' := by
 have hu102 := Try.underlying102
 have HB := mK (Below.refl w.heap.size w)
 have H : ((pascalineref02_Check.f k a0_0 a0_1 a0_2 a0_3 a0_4).bind fun t317 => (if t317 = 0 then ((pascalineref02_Name.f a0_0).bind fun t318 => ((pascalineref02_Fields.f k a0_0 a0_1 a0_2 a0_3 a0_4).bind fun t319 => (pascalineref02_Text.l0 k t318 t319 0))) else (some ((⟨#[]⟩ : ByteArray), t317)))) = some (r1, r2) := h
 clear h
 replace H := oB H
 obtain ⟨t317, A20, H⟩ := H
 replace H : (if t317 = 0 then ((pascalineref02_Name.f a0_0).bind fun t318 => ((pascalineref02_Fields.f k a0_0 a0_1 a0_2 a0_3 a0_4).bind fun t319 => (pascalineref02_Text.l0 k t318 t319 0))) else (some ((⟨#[]⟩ : ByteArray), t317))) = some (r1, r2) := H
 have A2 := mK A20
 clear A20
 by_cases c3 : t317 = 0
 ·
  rw [if_pos c3] at H
  have c3b0 : (t317 == 0) = true := beq_iff_eq.mpr c3
  have c3b1 : (t317 != 0) = false := bR c3
  clear c3
  replace H := oB H
  obtain ⟨t318, A40, H⟩ := H
  replace H : ((pascalineref02_Fields.f k a0_0 a0_1 a0_2 a0_3 a0_4).bind fun t319 => (pascalineref02_Text.l0 k t318 t319 0)) = some (r1, r2) := H
  have A4 := mK A40
  clear A40
  replace H := oB H
  obtain ⟨t319, A50, H⟩ := H
  replace H : (pascalineref02_Text.l0 k t318 t319 0) = some (r1, r2) := H
  have A5 := mK A50
  clear A50
  have H' := mK H
  clear H
  go_enter Try.func43, Try.ntmps43
  go_wp2_with (first | ((with_reducible refine gate_dst (N := 1) rfl ?_); refine box_event ?hg (N := 1) ?hd (cs := #[.int .i64 a0_0, .int .i64 a0_1, .int .i64 a0_2, .int .i64 a0_3, .int .i64 a0_4]) (t := 102) ?hr ?_; (case hd => rfl); (case hg => rfl); (case hr => first | (go_simp; done) | (go_simp; rfl)); intro gb316 hg w6 hbox hb; have n0_ := mK (bP (by repeat (first | (with_reducible first | exact HB.out | apply bA | apply bN | apply bD) | exact HB.out)) hb); have n1_ := mK (hbox); have n2_ := mK ((by rw [hg]; exact (bZ (by repeat (first | (with_reducible first | exact HB.out | apply bA | apply bN | apply bD) | exact HB.out))) : w.heap.size ≤ gb316)); have n3_ := mK ((by rw [hg]; exact (bZ (by repeat (first | (with_reducible first | exact HB.out | apply bA | apply bN | apply bD) | exact HB.out))) : w.heap.size ≤ gb316)); clear HB; have HB := n0_; have BK316 := n1_; have GW316 := n2_; have GE316 := n3_; clear n0_ n1_ n2_ n3_; clear hb hbox hg; obtain ⟨hcz7_0, hcz7_1, hcz7_2, hcz7_3, hcz7_4, hfz7_0, hfz7_1, hfz7_2, hfz7_3, hfz7_4⟩ := cf5 BK316.out) | ((with_reducible refine gate_callee (f := 53) rfl ?_); refine goesL_ (some 9) rfl rfl Try.func53 (by kernel_rfl) rfl #[.agg #[.int .i64 a0_0, .int .i64 a0_1, .int .i64 a0_2, .int .i64 a0_3, .int .i64 a0_4]] rfl (by (try simp only [List.map_toArray, List.map_cons, List.map_nil]); first | done | rfl) ?_; (with_reducible refine (pascalineref02_Check.calls k a0_0 a0_1 a0_2 a0_3 a0_4 t317 _ A2.out).mono ?_); rintro e w8 ⟨rfl, hb⟩; refine ⟨_, rfl, ?_⟩; have n0_ := mK (kB (g := gb316) (o := o5 a0_0 a0_1 a0_2 a0_3 a0_4 102) (by (with_reducible repeat (first | refine kN ?_ _ | refine kD ?_ | refine kA ?_ _)); exact BK316.out) hb); have n1_ := mK (bP (by repeat (first | (with_reducible first | exact HB.out | apply bA | apply bN | apply bD | refine bS ?_ GE316.out) | exact HB.out)) hb); clear BK316; clear HB; have BK316 := n0_; have HB := n1_; clear n0_ n1_; (try clear hb); obtain ⟨hcz9_0, hcz9_1, hcz9_2, hcz9_3, hcz9_4, hfz9_0, hfz9_1, hfz9_2, hfz9_3, hfz9_4⟩ := cf5 BK316.out) | ((with_reducible refine gate_callee (f := 54) rfl ?_); refine goesL_ (some 15) rfl rfl Try.func54 (by kernel_rfl) rfl #[.int .i64 a0_0] rfl (by (try simp only [List.map_toArray, List.map_cons, List.map_nil]); first | done | rfl) ?_; (with_reducible refine (pascalineref02_Name.calls a0_0 t318 _ A4.out).mono ?_); rintro e w10 ⟨rfl, hb⟩; refine ⟨_, rfl, ?_⟩; have n0_ := mK (kB (g := gb316) (o := o5 a0_0 a0_1 a0_2 a0_3 a0_4 102) (by (with_reducible repeat (first | refine kN ?_ _ | refine kD ?_ | refine kA ?_ _)); exact BK316.out) hb); have n1_ := mK (bP (by repeat (first | (with_reducible first | exact HB.out | apply bA | apply bN | apply bD | refine bS ?_ GE316.out) | exact HB.out)) hb); clear BK316; clear HB; have BK316 := n0_; have HB := n1_; clear n0_ n1_; (try clear hb); obtain ⟨hcz11_0, hcz11_1, hcz11_2, hcz11_3, hcz11_4, hfz11_0, hfz11_1, hfz11_2, hfz11_3, hfz11_4⟩ := cf5 BK316.out) | ((with_reducible refine gate_callee (f := 55) rfl ?_); refine goesL_ (some 17) rfl rfl Try.func55 (by kernel_rfl) rfl #[.agg #[.int .i64 a0_0, .int .i64 a0_1, .int .i64 a0_2, .int .i64 a0_3, .int .i64 a0_4]] rfl (by (try simp only [List.map_toArray, List.map_cons, List.map_nil]); first | done | rfl) ?_; (with_reducible refine (pascalineref02_Fields.calls k a0_0 a0_1 a0_2 a0_3 a0_4 t319 _ A5.out).mono ?_); rintro e w12 ⟨v320, rfl, ho0, hb⟩; refine ⟨_, rfl, ?_⟩; have n0_ := mK (Kd.R_lower ho0 (bZ (by repeat (first | (with_reducible first | exact HB.out | apply bA | apply bN | apply bD | refine bS ?_ GE316.out) | exact HB.out)))); have n1_ := mK (kB (g := gb316) (o := o5 a0_0 a0_1 a0_2 a0_3 a0_4 102) (by (with_reducible repeat (first | refine kN ?_ _ | refine kD ?_ | refine kA ?_ _)); exact BK316.out) hb); have n2_ := mK (bP (by repeat (first | (with_reducible first | exact HB.out | apply bA | apply bN | apply bD | refine bS ?_ GE316.out) | exact HB.out)) hb); clear BK316; clear HB; have HO321 := n0_; have BK316 := n1_; have HB := n2_; clear n0_ n1_ n2_; (try clear hb); (try clear ho0)))
  go_loopg [5, 7] k (fun kq v5 v7 w' => ∃ (x5_1 : ByteArray) (x7_1 : Int), v5 = .string x5_1 ∧ v7 = .int .i64 x7_1 ∧ Aside0 (pascalineref02_Text.l0 kq x5_1 t319 x7_1 = some (r1, r2)) ∧ Aside0 (kq ≤ k) ∧ Aside0 (Kd.R Kd.string 9 w' w.heap.size (fun _ => True) v320 t319) ∧ Aside0 (w'.heap[gb316]? = some (o5 a0_0 a0_1 a0_2 a0_3 a0_4 102)) ∧ Aside0 (Below w.heap.size w w'))
  case atStart => exact ⟨(t318), (0), (by first | rfl | (simp; done) | (simp [*]; done)), (by first | rfl | (simp; done) | (simp [*]; done)), H', ⟨Nat.le_refl _⟩, ⟨by (with_reducible repeat (first | apply Kd.R_alloc | apply Kd.R_drewN | apply Kd.R_drew)); exact HO321.out⟩, ⟨by (with_reducible repeat (first | refine kN ?_ _ | refine kD ?_ | refine kA ?_ _)); exact BK316.out⟩, ⟨by repeat (first | (with_reducible first | exact HB.out | apply bA | apply bN | apply bD | refine bS ?_ GE316.out) | exact HB.out)⟩⟩
  case round =>
   clear H'
   (try clear c3); (try clear c3b0); (try clear c3b1); (try clear hcz11_0); (try clear hcz11_1); (try clear hcz11_2); (try clear hcz11_3); (try clear hcz11_4); (try clear hcz7_0); (try clear hcz7_1); (try clear hcz7_2); (try clear hcz7_3); (try clear hcz7_4); (try clear hcz9_0); (try clear hcz9_1); (try clear hcz9_2); (try clear hcz9_3); (try clear hcz9_4); (try clear hfz11_0); (try clear hfz11_1); (try clear hfz11_2); (try clear hfz11_3); (try clear hfz11_4); (try clear hfz7_0); (try clear hfz7_1); (try clear hfz7_2); (try clear hfz7_3); (try clear hfz7_4); (try clear hfz9_0); (try clear hfz9_1); (try clear hfz9_2); (try clear hfz9_3); (try clear hfz9_4)
   obtain ⟨x5_1, x7_1, rfl, rfl, HA, HK1, HO_6, BK316, HB⟩ := hrel
   cases gk with
   | zero => exact absurd HA.out (by simp [pascalineref02_Text.l0])
   | succ k1 =>
    have H := HA.out
    clear HA
    simp only [pascalineref02_Text.l0] at H
    by_cases c13 : x7_1 < (t319.length : Int)
    ·
     rw [if_pos c13] at H
     have c13b0 : decide (x7_1 < (t319.length : Int)) = true := decide_eq_true c13
     clear c13
     by_cases c14 : x7_1 > 0
     ·
      rw [if_pos c14] at H
      have c14b0 : decide (0 < x7_1) = true := decide_eq_true c14
      clear c14
      by_cases c15 : x5_1.size + 1 ≤ 9223372036854775807
      ·
       rw [if_pos c15] at H
       have c15b0 := eq_true c15
       have c15b1 : decide (x5_1.size + 1 ≤ 9223372036854775807) = true := decide_eq_true c15
       try have c15b2 : (9223372036854775807 < x5_1.size + 1) = False := eq_false (Nat.not_lt.2 c15)
       try (have c15s2 := c15b2; simp only [ByteArray.size_append, Go.Proofs.Ytmebogkhdbbbbaa.C.ba_lit, List.size_toArray, List.length_cons, List.length_nil, Nat.zero_add, Nat.reduceAdd] at c15s2)
       by_cases c16 : (x5_1 ++ (⟨#[44]⟩ : ByteArray)).size + 1 ≤ 9223372036854775807
       ·
        rw [if_pos c16] at H
        have c16b0 := eq_true c16
        have c16b1 : decide ((x5_1 ++ (⟨#[44]⟩ : ByteArray)).size + 1 ≤ 9223372036854775807) = true := decide_eq_true c16
        try have c16b2 : (9223372036854775807 < (x5_1 ++ (⟨#[44]⟩ : ByteArray)).size + 1) = False := eq_false (Nat.not_lt.2 c16)
        try (have c16s2 := c16b2; simp only [ByteArray.size_append, Go.Proofs.Ytmebogkhdbbbbaa.C.ba_lit, List.size_toArray, List.length_cons, List.length_nil, Nat.zero_add, Nat.reduceAdd] at c16s2)
        by_cases c17 : 0 ≤ x7_1
        ·
         rw [if_pos c17] at H
         have c17b0 : decide (0 ≤ x7_1) = true := decide_eq_true c17
         clear c17
         by_cases c18 : ((x5_1 ++ (⟨#[44]⟩ : ByteArray)) ++ (⟨#[32]⟩ : ByteArray)).size + (rdOf ByteArray.empty t319 x7_1).size ≤ 9223372036854775807
         ·
          rw [if_pos c18] at H
          have c18b0 := eq_true c18
          have c18b1 : decide (((x5_1 ++ (⟨#[44]⟩ : ByteArray)) ++ (⟨#[32]⟩ : ByteArray)).size + (rdOf ByteArray.empty t319 x7_1).size ≤ 9223372036854775807) = true := decide_eq_true c18
          try have c18b2 : (9223372036854775807 < ((x5_1 ++ (⟨#[44]⟩ : ByteArray)) ++ (⟨#[32]⟩ : ByteArray)).size + (rdOf ByteArray.empty t319 x7_1).size) = False := eq_false (Nat.not_lt.2 c18)
          try (have c18s2 := c18b2; simp only [ByteArray.size_append, Go.Proofs.Ytmebogkhdbbbbaa.C.ba_lit, List.size_toArray, List.length_cons, List.length_nil, Nat.zero_add, Nat.reduceAdd] at c18s2)
          have H' := mK H
          clear H
          obtain ⟨Ao19, co19, eo19⟩ := Kd.R_slice HO_6.out
          subst eo19
          have p322 : 0 ≤ (x7_1 : Int) := of_decide_eq_true (by first | (with_reducible assumption) | assumption)
          have q322 : x7_1 < (t319.length : Int) := of_decide_eq_true (by first | (with_reducible assumption) | assumption)
          obtain ⟨ad322, e322, hx322_0⟩ := Kd.at_string (Kd.R_reads' HO_6.out).2.2 x7_1 p322 q322
          cases e322
          replace p322 := eq_true p322
          replace q322 := eq_true q322
          go_wp2
          go_roundg k1
          case measure => have := HK1.out; omega
          case rel => exact ⟨(((x5_1 ++ (⟨#[44]⟩ : ByteArray)) ++ (⟨#[32]⟩ : ByteArray)) ++ (rdOf ByteArray.empty t319 x7_1)), (wrap64 (x7_1 + 1)), (by first | rfl | (simp; done) | (simp [*]; done)), (by first | rfl | (simp; done) | (simp [*]; done)), H', ⟨by have := HK1.out; omega⟩, ⟨by (with_reducible repeat (first | apply Kd.R_alloc | apply Kd.R_drewN | apply Kd.R_drew)); exact HO_6.out⟩, ⟨by (with_reducible repeat (first | refine kN ?_ _ | refine kD ?_ | refine kA ?_ _)); exact BK316.out⟩, ⟨by repeat (first | (with_reducible first | exact HB.out | apply bA | apply bN | apply bD | refine bS ?_ GE316.out) | exact HB.out)⟩⟩
         ·
          rw [if_neg c18] at H
          exact absurd H (by simp)
        ·
         rw [if_neg c17] at H
         exact absurd H (by simp)
       ·
        rw [if_neg c16] at H
        exact absurd H (by simp)
      ·
       rw [if_neg c15] at H
       exact absurd H (by simp)
     ·
      rw [if_neg c14] at H
      have c14b0 : decide (0 < x7_1) = false := decide_eq_false c14
      clear c14
      by_cases c20 : x5_1.size + 1 ≤ 9223372036854775807
      ·
       rw [if_pos c20] at H
       have c20b0 := eq_true c20
       have c20b1 : decide (x5_1.size + 1 ≤ 9223372036854775807) = true := decide_eq_true c20
       try have c20b2 : (9223372036854775807 < x5_1.size + 1) = False := eq_false (Nat.not_lt.2 c20)
       try (have c20s2 := c20b2; simp only [ByteArray.size_append, Go.Proofs.Ytmebogkhdbbbbaa.C.ba_lit, List.size_toArray, List.length_cons, List.length_nil, Nat.zero_add, Nat.reduceAdd] at c20s2)
       by_cases c21 : 0 ≤ x7_1
       ·
        rw [if_pos c21] at H
        have c21b0 : decide (0 ≤ x7_1) = true := decide_eq_true c21
        clear c21
        by_cases c22 : (x5_1 ++ (⟨#[32]⟩ : ByteArray)).size + (rdOf ByteArray.empty t319 x7_1).size ≤ 9223372036854775807
        ·
         rw [if_pos c22] at H
         have c22b0 := eq_true c22
         have c22b1 : decide ((x5_1 ++ (⟨#[32]⟩ : ByteArray)).size + (rdOf ByteArray.empty t319 x7_1).size ≤ 9223372036854775807) = true := decide_eq_true c22
         try have c22b2 : (9223372036854775807 < (x5_1 ++ (⟨#[32]⟩ : ByteArray)).size + (rdOf ByteArray.empty t319 x7_1).size) = False := eq_false (Nat.not_lt.2 c22)
         try (have c22s2 := c22b2; simp only [ByteArray.size_append, Go.Proofs.Ytmebogkhdbbbbaa.C.ba_lit, List.size_toArray, List.length_cons, List.length_nil, Nat.zero_add, Nat.reduceAdd] at c22s2)
         have H' := mK H
         clear H
         obtain ⟨Ao23, co23, eo23⟩ := Kd.R_slice HO_6.out
         subst eo23
         have p323 : 0 ≤ (x7_1 : Int) := of_decide_eq_true (by first | (with_reducible assumption) | assumption)
         have q323 : x7_1 < (t319.length : Int) := of_decide_eq_true (by first | (with_reducible assumption) | assumption)
         obtain ⟨ad323, e323, hx323_0⟩ := Kd.at_string (Kd.R_reads' HO_6.out).2.2 x7_1 p323 q323
         cases e323
         replace p323 := eq_true p323
         replace q323 := eq_true q323
         go_wp2
         go_roundg k1
         case measure => have := HK1.out; omega
         case rel => exact ⟨((x5_1 ++ (⟨#[32]⟩ : ByteArray)) ++ (rdOf ByteArray.empty t319 x7_1)), (wrap64 (x7_1 + 1)), (by first | rfl | (simp; done) | (simp [*]; done)), (by first | rfl | (simp; done) | (simp [*]; done)), H', ⟨by have := HK1.out; omega⟩, ⟨by (with_reducible repeat (first | apply Kd.R_alloc | apply Kd.R_drewN | apply Kd.R_drew)); exact HO_6.out⟩, ⟨by (with_reducible repeat (first | refine kN ?_ _ | refine kD ?_ | refine kA ?_ _)); exact BK316.out⟩, ⟨by repeat (first | (with_reducible first | exact HB.out | apply bA | apply bN | apply bD | refine bS ?_ GE316.out) | exact HB.out)⟩⟩
        ·
         rw [if_neg c22] at H
         exact absurd H (by simp)
       ·
        rw [if_neg c21] at H
        exact absurd H (by simp)
      ·
       rw [if_neg c20] at H
       exact absurd H (by simp)
    ·
     rw [if_neg c13] at H
     have c13b0 : decide (x7_1 < (t319.length : Int)) = false := decide_eq_false c13
     clear c13
     simp only [Option.some.injEq, Prod.mk.injEq] at H
     obtain ⟨rfl, rfl⟩ := H
     obtain ⟨Ao24, co24, eo24⟩ := Kd.R_slice HO_6.out
     subst eo24
     go_wp2
     go_ret2
     exact ⟨by first | rfl | (simp [errW_none, errW_some] <;> rfl) | (simp [*, errW_none, errW_some] <;> rfl), by repeat (first | (with_reducible first | exact HB.out | apply bA | apply bN | apply bD | refine bS ?_ GE316.out) | exact HB.out)⟩
 ·
  rw [if_neg c3] at H
  have c3b0 : (t317 == 0) = false := bQ c3
  have c3b1 : (t317 != 0) = true := bne_iff_ne.mpr c3
  simp only [Option.some.injEq, Prod.mk.injEq] at H
  obtain ⟨rfl, rfl⟩ := H
  go_enter Try.func43, Try.ntmps43
  go_wp2_with (first | ((with_reducible refine gate_dst (N := 1) rfl ?_); refine box_event ?hg (N := 1) ?hd (cs := #[.int .i64 a0_0, .int .i64 a0_1, .int .i64 a0_2, .int .i64 a0_3, .int .i64 a0_4]) (t := 102) ?hr ?_; (case hd => rfl); (case hg => rfl); (case hr => first | (go_simp; done) | (go_simp; rfl)); intro gb316 hg w25 hbox hb; have n0_ := mK (bP (by repeat (first | (with_reducible first | exact HB.out | apply bA | apply bN | apply bD) | exact HB.out)) hb); have n1_ := mK (hbox); have n2_ := mK ((by rw [hg]; exact (bZ (by repeat (first | (with_reducible first | exact HB.out | apply bA | apply bN | apply bD) | exact HB.out))) : w.heap.size ≤ gb316)); have n3_ := mK ((by rw [hg]; exact (bZ (by repeat (first | (with_reducible first | exact HB.out | apply bA | apply bN | apply bD) | exact HB.out))) : w.heap.size ≤ gb316)); clear HB; have HB := n0_; have BK316 := n1_; have GW316 := n2_; have GE316 := n3_; clear n0_ n1_ n2_ n3_; clear hb hbox hg; obtain ⟨hcz26_0, hcz26_1, hcz26_2, hcz26_3, hcz26_4, hfz26_0, hfz26_1, hfz26_2, hfz26_3, hfz26_4⟩ := cf5 BK316.out) | ((with_reducible refine gate_callee (f := 53) rfl ?_); refine goesL_ (some 9) rfl rfl Try.func53 (by kernel_rfl) rfl #[.agg #[.int .i64 a0_0, .int .i64 a0_1, .int .i64 a0_2, .int .i64 a0_3, .int .i64 a0_4]] rfl (by (try simp only [List.map_toArray, List.map_cons, List.map_nil]); first | done | rfl) ?_; (with_reducible refine (pascalineref02_Check.calls k a0_0 a0_1 a0_2 a0_3 a0_4 t317 _ A2.out).mono ?_); rintro e w27 ⟨rfl, hb⟩; refine ⟨_, rfl, ?_⟩; have n0_ := mK (kB (g := gb316) (o := o5 a0_0 a0_1 a0_2 a0_3 a0_4 102) (by (with_reducible repeat (first | refine kN ?_ _ | refine kD ?_ | refine kA ?_ _)); exact BK316.out) hb); have n1_ := mK (bP (by repeat (first | (with_reducible first | exact HB.out | apply bA | apply bN | apply bD | refine bS ?_ GE316.out) | exact HB.out)) hb); clear BK316; clear HB; have BK316 := n0_; have HB := n1_; clear n0_ n1_; (try clear hb)))
  go_ret2
  exact ⟨by first | rfl | (simp [errW_none, errW_some] <;> rfl) | (simp [*, errW_none, errW_some] <;> rfl), by repeat (first | (with_reducible first | exact HB.out | apply bA | apply bN | apply bD | refine bS ?_ GE316.out) | exact HB.out)⟩


/-! ### pascalineref06_leads: function 44 -/
def pascalineref06_leads.f (a0 : Int) : Option (Bool) := if a0 ≥ 20 then (some (decide (a0 ≤ 23))) else (some false)
set_option maxHeartbeats 8000000 in
set_option maxRecDepth 100000 in
theorem pascalineref06_leads.calls (a0 : Int) (r : Bool) (w : World) (h : pascalineref06_leads.f a0 = some r) :
 Calls Try.prog 44 #[.int .i64 a0] w fun e w' => e = .returned (.bool r) ∧ Drawn0 w w' := by
 have H : (if a0 ≥ 20 then (some (decide (a0 ≤ 23))) else (some false)) = some r := h
 clear h
 by_cases c2 : a0 ≥ 20
 ·
  rw [if_pos c2] at H
  have c2b0 : decide (20 ≤ a0) = true := decide_eq_true c2
  clear c2
  obtain rfl := Option.some.inj H
  go_enter Try.func44, Try.ntmps44
  go_wp2
  go_ret
  exact ⟨by first | rfl | (simp; done) | (simp [*]; done), by repeat (first | exact Drawn0.refl _ | apply Drawn0.step)⟩
 ·
  rw [if_neg c2] at H
  have c2b0 : decide (20 ≤ a0) = false := decide_eq_false c2
  clear c2
  obtain rfl := Option.some.inj H
  go_enter Try.func44, Try.ntmps44
  go_wp2
  go_ret
  exact ⟨by first | rfl | (simp; done) | (simp [*]; done), by repeat (first | exact Drawn0.refl _ | apply Drawn0.step)⟩

end Go.Proofs.Ytmebogkhdbbbbaa.P

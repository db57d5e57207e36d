import Derived.Test.YtmajngcgejkghaaPx0
import Derived.Test.YtmajngcgejkghaaCCf
import Derived.Test.YtmajngcgejkghaaPx1
import Derived.Test.YtmajngcgejkghaaPx13
import Derived.Test.YtmajngcgejkghaaPx22
namespace Go.Proofs.Ytmajngcgejkghaa.P
open Go.RowKit Go.Proofs.YtmajngcgejkghaaW.PrintWords Go.Proofs.YtmajngcgejkghaaW.PrintLast Go.Proofs.YtmajngcgejkghaaW.PrintMore
attribute [local go_sem] max2_int min2_int max_two min_two max_three min_three max_four min_four   -- for this text's walks alone
set_option linter.unusedVariables false
set_option linter.unusedSimpArgs false

/-! ### pascalineref02_Decode: function 19 -/
mutual
def pascalineref02_Decode.j0 : Nat → Int → Int → Bool → Bool → Int → Int → Int → Int → Int → Option (Int × Int × Int × Int × Int × Int)
 | 0, _, _, _, _, _, _, _, _, _ => none
 | k + 1, x0, x5, x7, x8, x184000, x184001, x184002, x184003, x184004 => if x7 = true then (pascalineref02_Decode.j1 k x0 x5 x8 x184000 x184001 ((Int.tdiv x0 65536) % 16) x184003 x184004) else (pascalineref02_Decode.j1 k x0 x5 x8 x184000 x184001 x184002 x184003 x184004)
def pascalineref02_Decode.j1 : Nat → Int → Int → Bool → Int → Int → Int → Int → Int → Option (Int × Int × Int × Int × Int × Int)
 | 0, _, _, _, _, _, _, _, _ => none
 | k + 1, x0, x5, x8, x184000, x184001, x184002, x184003, x184004 => if x8 = true then (pascalineref02_Decode.j2 k x0 x5 x184000 x184001 x184002 (wrap64 (Int.tmod x0 16)) x184004) else (pascalineref02_Decode.j2 k x0 x5 x184000 x184001 x184002 x184003 x184004)
def pascalineref02_Decode.j2 : Nat → Int → Int → Int → Int → Int → Int → Int → Option (Int × Int × Int × Int × Int × Int)
 | 0, _, _, _, _, _, _, _ => none
 | k + 1, x0, x5, x184000, x184001, x184002, x184003, x184004 => if x5 = 1 then (pascalineref02_Decode.j3 k x0 x5 (x5 == 1) x184000 x184001 x184002 x184003 x184004) else (pascalineref02_Decode.j3 k x0 x5 (x5 == 3) x184000 x184001 x184002 x184003 x184004)
def pascalineref02_Decode.j3 : Nat → Int → Int → Bool → Int → Int → Int → Int → Int → Option (Int × Int × Int × Int × Int × Int)
 | 0, _, _, _, _, _, _, _, _ => none
 | k + 1, x0, x41, x42, x184000, x184001, x184002, x184003, x184004 => if x42 = true then ((pascalineref01_Sext.f k x0 16).bind fun t188 => ((pascalineref02_Encode.f k x184000 x184001 x184002 x184003 (wrap64 (t188))).bind fun bt189 => (if bt189.2 = 0 then (if bt189.1 = x0 then (some (x184000, x184001, x184002, x184003, wrap64 (t188), 0)) else (some (0, 0, 0, 0, 0, 21))) else (some (0, 0, 0, 0, 0, 21))))) else (if x41 = 2 then (pascalineref02_Decode.j4 k x0 x41 (x41 == 2) x184000 x184001 x184002 x184003 x184004) else (if x41 = 4 then (pascalineref02_Decode.j4 k x0 x41 (x41 == 4) x184000 x184001 x184002 x184003 x184004) else (pascalineref02_Decode.j4 k x0 x41 (x41 == 8) x184000 x184001 x184002 x184003 x184004)))
def pascalineref02_Decode.j4 : Nat → Int → Int → Bool → Int → Int → Int → Int → Int → Option (Int × Int × Int × Int × Int × Int)
 | 0, _, _, _, _, _, _, _, _ => none
 | k + 1, x0, x41, x49, x184000, x184001, x184002, x184003, x184004 => if x49 = true then ((pascalineref02_Encode.f k x184000 x184001 x184002 x184003 (wrap64 (Int.tmod x0 65536))).bind fun bt191 => (if bt191.2 = 0 then (if bt191.1 = x0 then (some (x184000, x184001, x184002, x184003, wrap64 (Int.tmod x0 65536), 0)) else (some (0, 0, 0, 0, 0, 21))) else (some (0, 0, 0, 0, 0, 21)))) else (if x41 = 7 then ((pascalineref01_Sext.f k x0 24).bind fun t193 => ((pascalineref02_Encode.f k x184000 x184001 x184002 x184003 (wrap64 (t193))).bind fun bt194 => (if bt194.2 = 0 then (if bt194.1 = x0 then (some (x184000, x184001, x184002, x184003, wrap64 (t193), 0)) else (some (0, 0, 0, 0, 0, 21))) else (some (0, 0, 0, 0, 0, 21))))) else ((pascalineref02_Encode.f k x184000 x184001 x184002 x184003 x184004).bind fun bt196 => (if bt196.2 = 0 then (if bt196.1 = x0 then (some (x184000, x184001, x184002, x184003, x184004, 0)) else (some (0, 0, 0, 0, 0, 21))) else (some (0, 0, 0, 0, 0, 21)))))
end
def pascalineref02_Decode.f (k : Nat) (a0 : Int) : Option (Int × Int × Int × Int × Int × Int) := (pascalineref02_Shape.f k ((Int.tdiv a0 16777216) % 4294967296)).bind fun t184 => ((pascalineref02_has.f t184).bind fun bt185 => (if bt185.1 = true then (pascalineref02_Decode.j0 k a0 t184 bt185.2.1 bt185.2.2 ((Int.tdiv a0 16777216) % 4294967296) ((Int.tdiv a0 1048576) % 16) 0 0 0) else (pascalineref02_Decode.j0 k a0 t184 bt185.2.1 bt185.2.2 ((Int.tdiv a0 16777216) % 4294967296) 0 0 0 0)))
theorem pascalineref02_Decode.mono_l : ∀ k, (∀ y0 y1 y2 y3 y4 y5 y6 y7 y8, LeO (pascalineref02_Decode.j0 k y0 y1 y2 y3 y4 y5 y6 y7 y8) (pascalineref02_Decode.j0 (k + 1) y0 y1 y2 y3 y4 y5 y6 y7 y8)) ∧ (∀ y0 y1 y2 y3 y4 y5 y6 y7, LeO (pascalineref02_Decode.j1 k y0 y1 y2 y3 y4 y5 y6 y7) (pascalineref02_Decode.j1 (k + 1) y0 y1 y2 y3 y4 y5 y6 y7)) ∧ (∀ y0 y1 y2 y3 y4 y5 y6, LeO (pascalineref02_Decode.j2 k y0 y1 y2 y3 y4 y5 y6) (pascalineref02_Decode.j2 (k + 1) y0 y1 y2 y3 y4 y5 y6)) ∧ (∀ y0 y1 y2 y3 y4 y5 y6 y7, LeO (pascalineref02_Decode.j3 k y0 y1 y2 y3 y4 y5 y6 y7) (pascalineref02_Decode.j3 (k + 1) y0 y1 y2 y3 y4 y5 y6 y7)) ∧ (∀ y0 y1 y2 y3 y4 y5 y6 y7, LeO (pascalineref02_Decode.j4 k y0 y1 y2 y3 y4 y5 y6 y7) (pascalineref02_Decode.j4 (k + 1) y0 y1 y2 y3 y4 y5 y6 y7))
 | 0 => ⟨fun _ _ _ _ _ _ _ _ _ r h => by simp [pascalineref02_Decode.j0] at h, fun _ _ _ _ _ _ _ _ r h => by simp [pascalineref02_Decode.j1] at h, fun _ _ _ _ _ _ _ r h => by simp [pascalineref02_Decode.j2] at h, fun _ _ _ _ _ _ _ _ r h => by simp [pascalineref02_Decode.j3] at h, fun _ _ _ _ _ _ _ _ r h => by simp [pascalineref02_Decode.j4] at h⟩
 | k + 1 => by
  obtain ⟨ih0, ih1, ih2, ih3, ih4⟩ := pascalineref02_Decode.mono_l k
  refine ⟨?_, ?_, ?_, ?_, ?_⟩
  ·
   intro y0 y1 y2 y3 y4 y5 y6 y7 y8
   unfold pascalineref02_Decode.j0
   repeat' first
   | (with_reducible exact ih0 _ _ _ _ _ _ _ _ _)
   | (with_reducible exact ih1 _ _ _ _ _ _ _ _)
   | (with_reducible exact ih2 _ _ _ _ _ _ _)
   | (with_reducible exact ih3 _ _ _ _ _ _ _ _)
   | (with_reducible exact ih4 _ _ _ _ _ _ _ _)
   | (with_reducible exact pascalineref01_Sext.mono _ _ _)
   | (with_reducible exact pascalineref02_Encode.mono _ _ _ _ _ _)
   | (with_reducible exact pascalineref02_Shape.mono _ _)
   | (with_reducible exact LeO.refl _)
   | (with_reducible exact LeO.none _)
   | (with_reducible refine LeO.ite ?_ ?_)
   | (with_reducible refine LeO.bind ?_ (fun _ => ?_))
   | exact LeO.none _
   | refine LeO.ite ?_ ?_
   | refine LeO.bind ?_ (fun _ => ?_)
  ·
   intro y0 y1 y2 y3 y4 y5 y6 y7
   unfold pascalineref02_Decode.j1
   repeat' first
   | (with_reducible exact ih0 _ _ _ _ _ _ _ _ _)
   | (with_reducible exact ih1 _ _ _ _ _ _ _ _)
   | (with_reducible exact ih2 _ _ _ _ _ _ _)
   | (with_reducible exact ih3 _ _ _ _ _ _ _ _)
   | (with_reducible exact ih4 _ _ _ _ _ _ _ _)
   | (with_reducible exact pascalineref01_Sext.mono _ _ _)
   | (with_reducible exact pascalineref02_Encode.mono _ _ _ _ _ _)
   | (with_reducible exact pascalineref02_Shape.mono _ _)
   | (with_reducible exact LeO.refl _)
   | (with_reducible exact LeO.none _)
   | (with_reducible refine LeO.ite ?_ ?_)
   | (with_reducible refine LeO.bind ?_ (fun _ => ?_))
   | exact LeO.none _
   | refine LeO.ite ?_ ?_
   | refine LeO.bind ?_ (fun _ => ?_)
  ·
   intro y0 y1 y2 y3 y4 y5 y6
   unfold pascalineref02_Decode.j2
   repeat' first
   | (with_reducible exact ih0 _ _ _ _ _ _ _ _ _)
   | (with_reducible exact ih1 _ _ _ _ _ _ _ _)
   | (with_reducible exact ih2 _ _ _ _ _ _ _)
   | (with_reducible exact ih3 _ _ _ _ _ _ _ _)
   | (with_reducible exact ih4 _ _ _ _ _ _ _ _)
   | (with_reducible exact pascalineref01_Sext.mono _ _ _)
   | (with_reducible exact pascalineref02_Encode.mono _ _ _ _ _ _)
   | (with_reducible exact pascalineref02_Shape.mono _ _)
   | (with_reducible exact LeO.refl _)
   | (with_reducible exact LeO.none _)
   | (with_reducible refine LeO.ite ?_ ?_)
   | (with_reducible refine LeO.bind ?_ (fun _ => ?_))
   | exact LeO.none _
   | refine LeO.ite ?_ ?_
   | refine LeO.bind ?_ (fun _ => ?_)
  ·
   intro y0 y1 y2 y3 y4 y5 y6 y7
   unfold pascalineref02_Decode.j3
   repeat' first
   | (with_reducible exact ih0 _ _ _ _ _ _ _ _ _)
   | (with_reducible exact ih1 _ _ _ _ _ _ _ _)
   | (with_reducible exact ih2 _ _ _ _ _ _ _)
   | (with_reducible exact ih3 _ _ _ _ _ _ _ _)
   | (with_reducible exact ih4 _ _ _ _ _ _ _ _)
   | (with_reducible exact pascalineref01_Sext.mono _ _ _)
   | (with_reducible exact pascalineref02_Encode.mono _ _ _ _ _ _)
   | (with_reducible exact pascalineref02_Shape.mono _ _)
   | (with_reducible exact LeO.refl _)
   | (with_reducible exact LeO.none _)
   | (with_reducible refine LeO.ite ?_ ?_)
   | (with_reducible refine LeO.bind ?_ (fun _ => ?_))
   | exact LeO.none _
   | refine LeO.ite ?_ ?_
   | refine LeO.bind ?_ (fun _ => ?_)
  ·
   intro y0 y1 y2 y3 y4 y5 y6 y7
   unfold pascalineref02_Decode.j4
   repeat' first
   | (with_reducible exact ih0 _ _ _ _ _ _ _ _ _)
   | (with_reducible exact ih1 _ _ _ _ _ _ _ _)
   | (with_reducible exact ih2 _ _ _ _ _ _ _)
   | (with_reducible exact ih3 _ _ _ _ _ _ _ _)
   | (with_reducible exact ih4 _ _ _ _ _ _ _ _)
   | (with_reducible exact pascalineref01_Sext.mono _ _ _)
   | (with_reducible exact pascalineref02_Encode.mono _ _ _ _ _ _)
   | (with_reducible exact pascalineref02_Shape.mono _ _)
   | (with_reducible exact LeO.refl _)
   | (with_reducible exact LeO.none _)
   | (with_reducible refine LeO.ite ?_ ?_)
   | (with_reducible refine LeO.bind ?_ (fun _ => ?_))
   | exact LeO.none _
   | refine LeO.ite ?_ ?_
   | refine LeO.bind ?_ (fun _ => ?_)
theorem pascalineref02_Decode.mono : ∀ a0 k, LeO (pascalineref02_Decode.f k a0) (pascalineref02_Decode.f (k + 1) a0) := by
 intro a0 k
 obtain ⟨ih0, ih1, ih2, ih3, ih4⟩ := pascalineref02_Decode.mono_l k
 unfold pascalineref02_Decode.f
 repeat' first
  | (with_reducible exact ih0 _ _ _ _ _ _ _ _ _)
  | (with_reducible exact ih1 _ _ _ _ _ _ _ _)
  | (with_reducible exact ih2 _ _ _ _ _ _ _)
  | (with_reducible exact ih3 _ _ _ _ _ _ _ _)
  | (with_reducible exact ih4 _ _ _ _ _ _ _ _)
  | (with_reducible exact pascalineref01_Sext.mono _ _ _)
  | (with_reducible exact pascalineref02_Encode.mono _ _ _ _ _ _)
  | (with_reducible exact pascalineref02_Shape.mono _ _)
  | (with_reducible exact LeO.refl _)
  | (with_reducible exact LeO.none _)
  | (with_reducible refine LeO.ite ?_ ?_)
  | (with_reducible refine LeO.bind ?_ (fun _ => ?_))
  | exact LeO.none _
  | refine LeO.ite ?_ ?_
  | refine LeO.bind ?_ (fun _ => ?_)
set_option maxHeartbeats 8000000 in
set_option maxRecDepth 100000 in
theorem pascalineref02_Decode.calls (k : Nat) (a0 : Int) (r1 : Int) (r2 : Int) (r3 : Int) (r4 : Int) (r5 : Int) (r6 : Int) (w : World) (h : pascalineref02_Decode.f k a0 = some (r1, r2, r3, r4, r5, r6)) :
 Calls Try.prog 19 #[.int .u32 a0] w fun e w' => e = .returned (.tuple #[.agg #[.int .i64 r1, .int .i64 r2, .int .i64 r3, .int .i64 r4, .int .i64 r5], .int .i64 r6]) ∧ Below w.heap.size w w' := by
 have hu31 := Try.underlying31
 have HB := mK (Below.refl w.heap.size w)
 have H : ((pascalineref02_Shape.f k ((Int.tdiv a0 16777216) % 4294967296)).bind fun t184 => ((pascalineref02_has.f t184).bind fun bt185 => (if bt185.1 = true then (pascalineref02_Decode.j0 k a0 t184 bt185.2.1 bt185.2.2 ((Int.tdiv a0 16777216) % 4294967296) ((Int.tdiv a0 1048576) % 16) 0 0 0) else (pascalineref02_Decode.j0 k a0 t184 bt185.2.1 bt185.2.2 ((Int.tdiv a0 16777216) % 4294967296) 0 0 0 0)))) = some (r1, r2, r3, r4, r5, r6) := h
 clear h
 replace H := oB H
 obtain ⟨t184, A20, H⟩ := H
 replace H : ((pascalineref02_has.f t184).bind fun bt185 => (if bt185.1 = true then (pascalineref02_Decode.j0 k a0 t184 bt185.2.1 bt185.2.2 ((Int.tdiv a0 16777216) % 4294967296) ((Int.tdiv a0 1048576) % 16) 0 0 0) else (pascalineref02_Decode.j0 k a0 t184 bt185.2.1 bt185.2.2 ((Int.tdiv a0 16777216) % 4294967296) 0 0 0 0))) = some (r1, r2, r3, r4, r5, r6) := H
 have A2 := mK A20
 clear A20
 replace H := oB H
 obtain ⟨⟨t185, t186, t187⟩, A30, H⟩ := H
 replace H : (if t185 = true then (pascalineref02_Decode.j0 k a0 t184 t186 t187 ((Int.tdiv a0 16777216) % 4294967296) ((Int.tdiv a0 1048576) % 16) 0 0 0) else (pascalineref02_Decode.j0 k a0 t184 t186 t187 ((Int.tdiv a0 16777216) % 4294967296) 0 0 0 0)) = some (r1, r2, r3, r4, r5, r6) := H
 have A3 := mK A30
 clear A30
 have HC4 := mK H
 clear H
 go_enter Try.func19, Try.ntmps19
 go_upto_if 24 with (first | ((with_reducible refine gate_dst (N := 2) rfl ?_); refine box_event ?hg (N := 2) ?hd (cs := #[.int .i64 0, .int .i64 0, .int .i64 0, .int .i64 0, .int .i64 0]) (t := 31) ?hr ?_; (case hd => rfl); (case hg => rfl); (case hr => first | (go_simp; done) | (go_simp; rfl)); intro gb182 hg w5 hbox hb; have n0_ := mK (bP (by repeat (first | (with_reducible first | exact HB.out | apply bA | apply bN | apply bD) | exact HB.out)) hb); have n1_ := mK (hbox); have n2_ := mK ((by rw [hg]; exact (bZ (by repeat (first | (with_reducible first | exact HB.out | apply bA | apply bN | apply bD) | exact HB.out))) : w.heap.size ≤ gb182)); have n3_ := mK ((by rw [hg]; exact (bZ (by repeat (first | (with_reducible first | exact HB.out | apply bA | apply bN | apply bD) | exact HB.out))) : w.heap.size ≤ gb182)); clear HB; have HB := n0_; have BK182 := n1_; have GW182 := n2_; have GE182 := n3_; clear n0_ n1_ n2_ n3_; clear hb hbox hg) | ((with_reducible refine gate_dst (N := 4) rfl ?_); refine box_event ?hg (N := 4) ?hd (cs := #[.int .i64 0, .int .i64 0, .int .i64 0, .int .i64 0, .int .i64 0]) (t := 31) ?hr ?_; (case hd => rfl); (case hg => rfl); (case hr => first | (go_simp; done) | (go_simp; rfl)); intro gb183 hg w6 hbox hb; have n0_ := mK (kB (g := gb182) (o := o5 0 0 0 0 0 31) (by (with_reducible repeat (first | refine kN ?_ _ | refine kD ?_ | refine kA ?_ _)); exact BK182.out) hb); have n1_ := mK (bP (by repeat (first | (with_reducible first | exact HB.out | apply bA | apply bN | apply bD | refine bS ?_ GE182.out) | exact HB.out)) hb); have n2_ := mK (hbox); have n3_ := mK ((by rw [hg]; exact (bZ (by repeat (first | (with_reducible first | exact HB.out | apply bA | apply bN | apply bD | refine bS ?_ GE182.out) | exact HB.out))) : w.heap.size ≤ gb183)); have n4_ := mK ((by rw [hg]; exact (bZ (by repeat (first | (with_reducible first | exact HB.out | apply bA | apply bN | apply bD | refine bS ?_ GE182.out) | exact HB.out))) : w.heap.size ≤ gb183)); have n5_ := mK ((by rw [hg]; exact Nat.ne_of_lt (blk_lt (g := gb182) (o := o5 0 0 0 0 0 31) (by (with_reducible repeat (first | refine kN ?_ _ | refine kD ?_ | refine kA ?_ _)); exact BK182.out)) : gb182 ≠ gb183)); have n6_ := mK ((by rw [hg]; exact Nat.ne_of_gt (blk_lt (g := gb182) (o := o5 0 0 0 0 0 31) (by (with_reducible repeat (first | refine kN ?_ _ | refine kD ?_ | refine kA ?_ _)); exact BK182.out)) : gb183 ≠ gb182)); clear BK182; clear HB; have BK182 := n0_; have HB := n1_; have BK183 := n2_; have GW183 := n3_; have GE183 := n4_; have NB182_183 := n5_; have NB183_182 := n6_; clear n0_ n1_ n2_ n3_ n4_ n5_ n6_; clear hb hbox hg; have hnb7 := NB183_182.out; have hnc7 := NB182_183.out; obtain ⟨hcz8_0, hcz8_1, hcz8_2, hcz8_3, hcz8_4, hfz8_0, hfz8_1, hfz8_2, hfz8_3, hfz8_4⟩ := cf5 BK183.out) | ((with_reducible refine gate_callee (f := 14) rfl ?_); refine goesL_ (some 17) rfl rfl Try.func14 (by kernel_rfl) rfl #[.int .i64 ((Int.tdiv a0 16777216) % 4294967296)] rfl (by (try simp only [List.map_toArray, List.map_cons, List.map_nil]); first | done | rfl) ?_; (with_reducible refine (pascalineref02_Shape.calls k ((Int.tdiv a0 16777216) % 4294967296) t184 _ A2.out).mono ?_); rintro e w' ⟨rfl, ⟨nd, rfl⟩⟩; refine ⟨_, rfl, ?_⟩) | ((with_reducible refine gate_callee (f := 30) rfl ?_); refine goesL_ (some 20) rfl rfl Try.func30 (by kernel_rfl) rfl #[.int .i64 t184] rfl (by (try simp only [List.map_toArray, List.map_cons, List.map_nil]); first | done | rfl) ?_; (with_reducible refine (pascalineref02_has.calls t184 t185 t186 t187 _ A3.out).mono ?_); rintro e w' ⟨rfl, ⟨nd, rfl⟩⟩; refine ⟨_, rfl, ?_⟩))
 (try simp only [Act.put, List.setIfInBounds_toArray, List.set_cons_zero, List.set_cons_succ])
 go_cut [] (fun wc => ∃ (kq : Nat) (x184001_3 : Int), Aside0 (pascalineref02_Decode.j0 kq a0 t184 t186 t187 ((Int.tdiv a0 16777216) % 4294967296) x184001_3 0 0 0 = some (r1, r2, r3, r4, r5, r6)) ∧ Aside0 (kq ≤ k) ∧ Aside0 (wc.heap[gb182]? = some (o5 0 0 0 0 0 31)) ∧ Aside0 (wc.heap[gb183]? = some (.cells #[.int .i64 ((Int.tdiv a0 16777216) % 4294967296), .int .i64 x184001_3, .int .i64 0, .int .i64 0, .int .i64 0] 31 (0, 0))) ∧ Aside0 (Below w.heap.size w wc))
 case first =>
  have H := HC4.out
  clear HC4
  by_cases c9 : t185 = true
  ·
   subst c9
   have H1 : (pascalineref02_Decode.j0 k a0 t184 t186 t187 ((Int.tdiv a0 16777216) % 4294967296) ((Int.tdiv a0 1048576) % 16) 0 0 0) = some (r1, r2, r3, r4, r5, r6) := by rw [if_pos rfl] at H; exact H
   clear H
   have H := H1
   clear H1
   have H' := mK H
   clear H
   have hnb10 := NB183_182.out
   have hnc10 := NB182_183.out
   obtain ⟨hcz11_0, hcz11_1, hcz11_2, hcz11_3, hcz11_4, hfz11_0, hfz11_1, hfz11_2, hfz11_3, hfz11_4⟩ := cf5 BK183.out
   go_wp2
   go_meet
   case rel => exact ⟨_, ((Int.tdiv a0 1048576) % 16), H', ⟨by first | omega | exact Nat.le_refl _⟩, ⟨by (with_reducible repeat (first | refine kN ?_ _ | refine kD ?_ | refine kA ?_ _)); refine kR ?_ NB182_183.out _; (with_reducible repeat (first | refine kN ?_ _ | refine kD ?_ | refine kA ?_ _)); refine kR ?_ NB182_183.out _; (with_reducible repeat (first | refine kN ?_ _ | refine kD ?_ | refine kA ?_ _)); refine kR ?_ NB182_183.out _; (with_reducible repeat (first | refine kN ?_ _ | refine kD ?_ | refine kA ?_ _)); refine kR ?_ NB182_183.out _; (with_reducible repeat (first | refine kN ?_ _ | refine kD ?_ | refine kA ?_ _)); refine kR ?_ NB182_183.out _; (with_reducible repeat (first | refine kN ?_ _ | refine kD ?_ | refine kA ?_ _)); refine kR ?_ NB182_183.out _; (with_reducible repeat (first | refine kN ?_ _ | refine kD ?_ | refine kA ?_ _)); exact BK182.out⟩, ⟨by (with_reducible repeat (first | refine kN ?_ _ | refine kD ?_ | refine kA ?_ _)); refine kP (cs := #[.int .i64 ((Int.tdiv a0 16777216) % 4294967296), .int .i64 0, .int .i64 0, .int .i64 0, .int .i64 0]) ?_ 1 _ rfl; (with_reducible repeat (first | refine kN ?_ _ | refine kD ?_ | refine kA ?_ _)); refine kP (cs := #[.int .i64 ((Int.tdiv a0 16777216) % 4294967296), .int .i64 0, .int .i64 0, .int .i64 0, .int .i64 0]) ?_ 4 _ rfl; (with_reducible repeat (first | refine kN ?_ _ | refine kD ?_ | refine kA ?_ _)); refine kP (cs := #[.int .i64 ((Int.tdiv a0 16777216) % 4294967296), .int .i64 0, .int .i64 0, .int .i64 0, .int .i64 0]) ?_ 3 _ rfl; (with_reducible repeat (first | refine kN ?_ _ | refine kD ?_ | refine kA ?_ _)); refine kP (cs := #[.int .i64 ((Int.tdiv a0 16777216) % 4294967296), .int .i64 0, .int .i64 0, .int .i64 0, .int .i64 0]) ?_ 2 _ rfl; (with_reducible repeat (first | refine kN ?_ _ | refine kD ?_ | refine kA ?_ _)); refine kP (cs := #[.int .i64 ((Int.tdiv a0 16777216) % 4294967296), .int .i64 0, .int .i64 0, .int .i64 0, .int .i64 0]) ?_ 1 _ rfl; (with_reducible repeat (first | refine kN ?_ _ | refine kD ?_ | refine kA ?_ _)); refine kP (cs := #[.int .i64 0, .int .i64 0, .int .i64 0, .int .i64 0, .int .i64 0]) ?_ 0 _ rfl; (with_reducible repeat (first | refine kN ?_ _ | refine kD ?_ | refine kA ?_ _)); exact BK183.out⟩, ⟨by repeat (first | (with_reducible first | exact HB.out | apply bA | apply bN | apply bD | refine bS ?_ GE182.out | refine bS ?_ GE183.out) | exact HB.out)⟩⟩
  ·
   replace c9 := Bool.eq_false_iff.mpr c9
   subst c9
   have H1 : (pascalineref02_Decode.j0 k a0 t184 t186 t187 ((Int.tdiv a0 16777216) % 4294967296) 0 0 0 0) = some (r1, r2, r3, r4, r5, r6) := by rw [if_neg (show ¬ (false = true) by decide)] at H; exact H
   clear H
   have H := H1
   clear H1
   have H' := mK H
   clear H
   go_wp2
   go_meet
   case rel => exact ⟨_, (0), H', ⟨by first | omega | exact Nat.le_refl _⟩, ⟨by (with_reducible repeat (first | refine kN ?_ _ | refine kD ?_ | refine kA ?_ _)); refine kR ?_ NB182_183.out _; (with_reducible repeat (first | refine kN ?_ _ | refine kD ?_ | refine kA ?_ _)); refine kR ?_ NB182_183.out _; (with_reducible repeat (first | refine kN ?_ _ | refine kD ?_ | refine kA ?_ _)); refine kR ?_ NB182_183.out _; (with_reducible repeat (first | refine kN ?_ _ | refine kD ?_ | refine kA ?_ _)); refine kR ?_ NB182_183.out _; (with_reducible repeat (first | refine kN ?_ _ | refine kD ?_ | refine kA ?_ _)); refine kR ?_ NB182_183.out _; (with_reducible repeat (first | refine kN ?_ _ | refine kD ?_ | refine kA ?_ _)); exact BK182.out⟩, ⟨by (with_reducible repeat (first | refine kN ?_ _ | refine kD ?_ | refine kA ?_ _)); refine kP (cs := #[.int .i64 ((Int.tdiv a0 16777216) % 4294967296), .int .i64 0, .int .i64 0, .int .i64 0, .int .i64 0]) ?_ 4 _ rfl; (with_reducible repeat (first | refine kN ?_ _ | refine kD ?_ | refine kA ?_ _)); refine kP (cs := #[.int .i64 ((Int.tdiv a0 16777216) % 4294967296), .int .i64 0, .int .i64 0, .int .i64 0, .int .i64 0]) ?_ 3 _ rfl; (with_reducible repeat (first | refine kN ?_ _ | refine kD ?_ | refine kA ?_ _)); refine kP (cs := #[.int .i64 ((Int.tdiv a0 16777216) % 4294967296), .int .i64 0, .int .i64 0, .int .i64 0, .int .i64 0]) ?_ 2 _ rfl; (with_reducible repeat (first | refine kN ?_ _ | refine kD ?_ | refine kA ?_ _)); refine kP (cs := #[.int .i64 ((Int.tdiv a0 16777216) % 4294967296), .int .i64 0, .int .i64 0, .int .i64 0, .int .i64 0]) ?_ 1 _ rfl; (with_reducible repeat (first | refine kN ?_ _ | refine kD ?_ | refine kA ?_ _)); refine kP (cs := #[.int .i64 0, .int .i64 0, .int .i64 0, .int .i64 0, .int .i64 0]) ?_ 0 _ rfl; (with_reducible repeat (first | refine kN ?_ _ | refine kD ?_ | refine kA ?_ _)); exact BK183.out⟩, ⟨by repeat (first | (with_reducible first | exact HB.out | apply bA | apply bN | apply bD | refine bS ?_ GE182.out | refine bS ?_ GE183.out) | exact HB.out)⟩⟩
 case rest =>
  clear HC4
  (try clear hcz8_0); (try clear hcz8_1); (try clear hcz8_2); (try clear hcz8_3); (try clear hcz8_4); (try clear hfz8_0); (try clear hfz8_1); (try clear hfz8_2); (try clear hfz8_3); (try clear hfz8_4)
  obtain ⟨kq, x184001_3, HA, HJ3, BK182, BK183, HB⟩ := hcut
  cases kq with
  | zero => exact absurd HA.out (by simp [pascalineref02_Decode.j0])
  | succ kj3 =>
   have H := HA.out
   clear HA
   simp only [pascalineref02_Decode.j0] at H
   have HC12 := mK H
   clear H
   go_upto_if 30 with (fail)
   go_cut [] (fun wc => ∃ (kq : Nat) (x184002_11 : Int), Aside0 (pascalineref02_Decode.j1 kq a0 t184 t187 ((Int.tdiv a0 16777216) % 4294967296) x184001_3 x184002_11 0 0 = some (r1, r2, r3, r4, r5, r6)) ∧ Aside0 (kq ≤ kj3) ∧ Aside0 (wc.heap[gb182]? = some (o5 0 0 0 0 0 31)) ∧ Aside0 (wc.heap[gb183]? = some (.cells #[.int .i64 ((Int.tdiv a0 16777216) % 4294967296), .int .i64 x184001_3, .int .i64 x184002_11, .int .i64 0, .int .i64 0] 31 (0, 0))) ∧ Aside0 (Below w.heap.size w wc))
   case first =>
    have H := HC12.out
    clear HC12
    by_cases c13 : t186 = true
    ·
     subst c13
     have H1 : (pascalineref02_Decode.j1 kj3 a0 t184 t187 ((Int.tdiv a0 16777216) % 4294967296) x184001_3 ((Int.tdiv a0 65536) % 16) 0 0) = some (r1, r2, r3, r4, r5, r6) := by rw [if_pos rfl] at H; exact H
     clear H
     have H := H1
     clear H1
     have H' := mK H
     clear H
     have hnb14 := NB183_182.out
     have hnc14 := NB182_183.out
     obtain ⟨hcz15_0, hcz15_1, hcz15_2, hcz15_3, hcz15_4, hfz15_0, hfz15_1, hfz15_2, hfz15_3, hfz15_4⟩ := cf5 BK183.out
     go_wp2
     go_meet
     case rel => exact ⟨_, ((Int.tdiv a0 65536) % 16), H', ⟨by have := HJ3.out; first | omega | exact Nat.le_refl _⟩, ⟨by (with_reducible repeat (first | refine kN ?_ _ | refine kD ?_ | refine kA ?_ _)); refine kR ?_ NB182_183.out _; (with_reducible repeat (first | refine kN ?_ _ | refine kD ?_ | refine kA ?_ _)); exact BK182.out⟩, ⟨by (with_reducible repeat (first | refine kN ?_ _ | refine kD ?_ | refine kA ?_ _)); refine kP (cs := #[.int .i64 ((Int.tdiv a0 16777216) % 4294967296), .int .i64 x184001_3, .int .i64 0, .int .i64 0, .int .i64 0]) ?_ 2 _ rfl; (with_reducible repeat (first | refine kN ?_ _ | refine kD ?_ | refine kA ?_ _)); exact BK183.out⟩, ⟨by repeat (first | (with_reducible first | exact HB.out | apply bA | apply bN | apply bD | refine bS ?_ GE182.out | refine bS ?_ GE183.out) | exact HB.out)⟩⟩
    ·
     replace c13 := Bool.eq_false_iff.mpr c13
     subst c13
     have H1 : (pascalineref02_Decode.j1 kj3 a0 t184 t187 ((Int.tdiv a0 16777216) % 4294967296) x184001_3 0 0 0) = some (r1, r2, r3, r4, r5, r6) := by rw [if_neg (show ¬ (false = true) by decide)] at H; exact H
     clear H
     have H := H1
     clear H1
     have H' := mK H
     clear H
     go_wp2
     go_meet
     case rel => exact ⟨_, (0), H', ⟨by have := HJ3.out; first | omega | exact Nat.le_refl _⟩, ⟨by (with_reducible repeat (first | refine kN ?_ _ | refine kD ?_ | refine kA ?_ _)); exact BK182.out⟩, ⟨by (with_reducible repeat (first | refine kN ?_ _ | refine kD ?_ | refine kA ?_ _)); exact BK183.out⟩, ⟨by repeat (first | (with_reducible first | exact HB.out | apply bA | apply bN | apply bD | refine bS ?_ GE182.out | refine bS ?_ GE183.out) | exact HB.out)⟩⟩
   case rest =>
    clear HC12
    (try clear hcz8_0); (try clear hcz8_1); (try clear hcz8_2); (try clear hcz8_3); (try clear hcz8_4); (try clear hfz8_0); (try clear hfz8_1); (try clear hfz8_2); (try clear hfz8_3); (try clear hfz8_4)
    obtain ⟨kq, x184002_11, HA, HJ11, BK182, BK183, HB⟩ := hcut
    cases kq with
    | zero => exact absurd HA.out (by simp [pascalineref02_Decode.j1])
    | succ kj11 =>
     have H := HA.out
     clear HA
     simp only [pascalineref02_Decode.j1] at H
     have HC16 := mK H
     clear H
     go_upto_if 36 with (fail)
     go_cut [] (fun wc => ∃ (kq : Nat) (x184003_15 : Int), Aside0 (pascalineref02_Decode.j2 kq a0 t184 ((Int.tdiv a0 16777216) % 4294967296) x184001_3 x184002_11 x184003_15 0 = some (r1, r2, r3, r4, r5, r6)) ∧ Aside0 (kq ≤ kj11) ∧ Aside0 (wc.heap[gb182]? = some (o5 0 0 0 0 0 31)) ∧ Aside0 (wc.heap[gb183]? = some (.cells #[.int .i64 ((Int.tdiv a0 16777216) % 4294967296), .int .i64 x184001_3, .int .i64 x184002_11, .int .i64 x184003_15, .int .i64 0] 31 (0, 0))) ∧ Aside0 (Below w.heap.size w wc))
     case first =>
      have H := HC16.out
      clear HC16
      by_cases c17 : t187 = true
      ·
       subst c17
       have H1 : (pascalineref02_Decode.j2 kj11 a0 t184 ((Int.tdiv a0 16777216) % 4294967296) x184001_3 x184002_11 (wrap64 (Int.tmod a0 16)) 0) = some (r1, r2, r3, r4, r5, r6) := by rw [if_pos rfl] at H; exact H
       clear H
       have H := H1
       clear H1
       have H' := mK H
       clear H
       have hnb18 := NB183_182.out
       have hnc18 := NB182_183.out
       obtain ⟨hcz19_0, hcz19_1, hcz19_2, hcz19_3, hcz19_4, hfz19_0, hfz19_1, hfz19_2, hfz19_3, hfz19_4⟩ := cf5 BK183.out
       go_wp2
       go_meet
       case rel => exact ⟨_, (wrap64 (Int.tmod a0 16)), H', ⟨by have := HJ3.out; have := HJ11.out; first | omega | exact Nat.le_refl _⟩, ⟨by (with_reducible repeat (first | refine kN ?_ _ | refine kD ?_ | refine kA ?_ _)); refine kR ?_ NB182_183.out _; (with_reducible repeat (first | refine kN ?_ _ | refine kD ?_ | refine kA ?_ _)); exact BK182.out⟩, ⟨by (with_reducible repeat (first | refine kN ?_ _ | refine kD ?_ | refine kA ?_ _)); refine kP (cs := #[.int .i64 ((Int.tdiv a0 16777216) % 4294967296), .int .i64 x184001_3, .int .i64 x184002_11, .int .i64 0, .int .i64 0]) ?_ 3 _ rfl; (with_reducible repeat (first | refine kN ?_ _ | refine kD ?_ | refine kA ?_ _)); exact BK183.out⟩, ⟨by repeat (first | (with_reducible first | exact HB.out | apply bA | apply bN | apply bD | refine bS ?_ GE182.out | refine bS ?_ GE183.out) | exact HB.out)⟩⟩
      ·
       replace c17 := Bool.eq_false_iff.mpr c17
       subst c17
       have H1 : (pascalineref02_Decode.j2 kj11 a0 t184 ((Int.tdiv a0 16777216) % 4294967296) x184001_3 x184002_11 0 0) = some (r1, r2, r3, r4, r5, r6) := by rw [if_neg (show ¬ (false = true) by decide)] at H; exact H
       clear H
       have H := H1
       clear H1
       have H' := mK H
       clear H
       go_wp2
       go_meet
       case rel => exact ⟨_, (0), H', ⟨by have := HJ3.out; have := HJ11.out; first | omega | exact Nat.le_refl _⟩, ⟨by (with_reducible repeat (first | refine kN ?_ _ | refine kD ?_ | refine kA ?_ _)); exact BK182.out⟩, ⟨by (with_reducible repeat (first | refine kN ?_ _ | refine kD ?_ | refine kA ?_ _)); exact BK183.out⟩, ⟨by repeat (first | (with_reducible first | exact HB.out | apply bA | apply bN | apply bD | refine bS ?_ GE182.out | refine bS ?_ GE183.out) | exact HB.out)⟩⟩
     case rest =>
      clear HC16
      (try clear hcz8_0); (try clear hcz8_1); (try clear hcz8_2); (try clear hcz8_3); (try clear hcz8_4); (try clear hfz8_0); (try clear hfz8_1); (try clear hfz8_2); (try clear hfz8_3); (try clear hfz8_4)
      obtain ⟨kq, x184003_15, HA, HJ15, BK182, BK183, HB⟩ := hcut
      cases kq with
      | zero => exact absurd HA.out (by simp [pascalineref02_Decode.j2])
      | succ kj15 =>
       have H := HA.out
       clear HA
       simp only [pascalineref02_Decode.j2] at H
       have HC20 := mK H
       clear H
       go_upto_if 42 with (fail)
       go_cut [42] (fun v42 wc => ∃ (kq : Nat) (x42_19 : Bool), v42 = .bool x42_19 ∧ Aside0 (pascalineref02_Decode.j3 kq a0 t184 x42_19 ((Int.tdiv a0 16777216) % 4294967296) x184001_3 x184002_11 x184003_15 0 = some (r1, r2, r3, r4, r5, r6)) ∧ Aside0 (kq ≤ kj15) ∧ Aside0 (wc.heap[gb182]? = some (o5 0 0 0 0 0 31)) ∧ Aside0 (wc.heap[gb183]? = some (.cells #[.int .i64 ((Int.tdiv a0 16777216) % 4294967296), .int .i64 x184001_3, .int .i64 x184002_11, .int .i64 x184003_15, .int .i64 0] 31 (0, 0))) ∧ Aside0 (Below w.heap.size w wc))
       case first =>
        have H := HC20.out
        clear HC20
        by_cases c21 : t184 = 1
        ·
         rw [if_pos c21] at H
         have c21b0 : (t184 == 1) = true := beq_iff_eq.mpr c21
         have c21b1 : (t184 != 1) = false := bR c21
         clear c21
         (first | rw [c21b0] | (simp only [i64_w, i32_w]; rw [c21b0]) | skip)
         have H' := mK H
         clear H
         go_wp2
         go_meet
         case rel => exact ⟨_, ((t184 == 1)), (by first | rfl | (simp; done) | (simp [*]; done)), H', ⟨by have := HJ3.out; have := HJ11.out; have := HJ15.out; first | omega | exact Nat.le_refl _⟩, ⟨by (with_reducible repeat (first | refine kN ?_ _ | refine kD ?_ | refine kA ?_ _)); exact BK182.out⟩, ⟨by (with_reducible repeat (first | refine kN ?_ _ | refine kD ?_ | refine kA ?_ _)); exact BK183.out⟩, ⟨by repeat (first | (with_reducible first | exact HB.out | apply bA | apply bN | apply bD | refine bS ?_ GE182.out | refine bS ?_ GE183.out) | exact HB.out)⟩⟩
        ·
         rw [if_neg c21] at H
         have c21b0 : (t184 == 1) = false := bQ c21
         have c21b1 : (t184 != 1) = true := bne_iff_ne.mpr c21
         (first | rw [c21b0] | (simp only [i64_w, i32_w]; rw [c21b0]) | skip)
         have H' := mK H
         clear H
         go_wp2
         go_meet
         case rel => exact ⟨_, ((t184 == 3)), (by first | rfl | (simp; done) | (simp [*]; done)), H', ⟨by have := HJ3.out; have := HJ11.out; have := HJ15.out; first | omega | exact Nat.le_refl _⟩, ⟨by (with_reducible repeat (first | refine kN ?_ _ | refine kD ?_ | refine kA ?_ _)); exact BK182.out⟩, ⟨by (with_reducible repeat (first | refine kN ?_ _ | refine kD ?_ | refine kA ?_ _)); exact BK183.out⟩, ⟨by repeat (first | (with_reducible first | exact HB.out | apply bA | apply bN | apply bD | refine bS ?_ GE182.out | refine bS ?_ GE183.out) | exact HB.out)⟩⟩
       case rest =>
        clear HC20
        (try clear hcz8_0); (try clear hcz8_1); (try clear hcz8_2); (try clear hcz8_3); (try clear hcz8_4); (try clear hfz8_0); (try clear hfz8_1); (try clear hfz8_2); (try clear hfz8_3); (try clear hfz8_4)
        obtain ⟨kq, x42_19, rfl, HA, HJ19, BK182, BK183, HB⟩ := hcut
        cases kq with
        | zero => exact absurd HA.out (by simp [pascalineref02_Decode.j3])
        | succ kj19 =>
         have H := HA.out
         clear HA
         simp only [pascalineref02_Decode.j3] at H
         by_cases c22 : x42_19 = true
         ·
          subst c22
          have H1 : ((pascalineref01_Sext.f kj19 a0 16).bind fun t188 => ((pascalineref02_Encode.f kj19 ((Int.tdiv a0 16777216) % 4294967296) x184001_3 x184002_11 x184003_15 (wrap64 (t188))).bind fun bt189 => (if bt189.2 = 0 then (if bt189.1 = a0 then (some (((Int.tdiv a0 16777216) % 4294967296), x184001_3, x184002_11, x184003_15, wrap64 (t188), 0)) else (some (0, 0, 0, 0, 0, 21))) else (some (0, 0, 0, 0, 0, 21))))) = some (r1, r2, r3, r4, r5, r6) := by rw [if_pos rfl] at H; exact H
          clear H
          have H := H1
          clear H1
          replace H := oB H
          obtain ⟨t188, A230, H⟩ := H
          replace H : ((pascalineref02_Encode.f kj19 ((Int.tdiv a0 16777216) % 4294967296) x184001_3 x184002_11 x184003_15 (wrap64 (t188))).bind fun bt189 => (if bt189.2 = 0 then (if bt189.1 = a0 then (some (((Int.tdiv a0 16777216) % 4294967296), x184001_3, x184002_11, x184003_15, wrap64 (t188), 0)) else (some (0, 0, 0, 0, 0, 21))) else (some (0, 0, 0, 0, 0, 21)))) = some (r1, r2, r3, r4, r5, r6) := H
          have A23 := mK A230
          clear A230
          replace H := oB H
          obtain ⟨⟨t189, t190⟩, A240, H⟩ := H
          replace H : (if t190 = 0 then (if t189 = a0 then (some (((Int.tdiv a0 16777216) % 4294967296), x184001_3, x184002_11, x184003_15, wrap64 (t188), 0)) else (some (0, 0, 0, 0, 0, 21))) else (some (0, 0, 0, 0, 0, 21))) = some (r1, r2, r3, r4, r5, r6) := H
          have A24 := mK A240
          clear A240
          by_cases c25 : t190 = 0
          ·
           rw [if_pos c25] at H
           have c25b0 : (t190 == 0) = true := beq_iff_eq.mpr c25
           have c25b1 : (t190 != 0) = false := bR c25
           clear c25
           by_cases c26 : t189 = a0
           ·
            rw [if_pos c26] at H
            have c26b0 : (t189 == a0) = true := beq_iff_eq.mpr c26
            have c26b1 : (t189 != a0) = false := bR c26
            clear c26
            simp only [Option.some.injEq, Prod.mk.injEq] at H
            obtain ⟨rfl, rfl, rfl, rfl, rfl, rfl⟩ := H
            go_wp2_with (first | ((with_reducible refine gate_callee (f := 31) rfl ?_); refine goesL_ (some 46) rfl rfl Try.func31 (by kernel_rfl) rfl #[.int .u32 a0, .int .i64 16] rfl (by (try simp only [List.map_toArray, List.map_cons, List.map_nil]); first | done | rfl) ?_; (with_reducible refine (pascalineref01_Sext.calls kj19 a0 16 t188 _ A23.out).mono ?_); rintro e w27 ⟨rfl, hb⟩; refine ⟨_, rfl, ?_⟩; have n0_ := mK (kB (g := gb182) (o := o5 0 0 0 0 0 31) (by (with_reducible repeat (first | refine kN ?_ _ | refine kD ?_ | refine kA ?_ _)); exact BK182.out) hb); have n1_ := mK (kB (g := gb183) (o := .cells #[.int .i64 ((Int.tdiv a0 16777216) % 4294967296), .int .i64 x184001_3, .int .i64 x184002_11, .int .i64 x184003_15, .int .i64 0] 31 (0, 0)) (by (with_reducible repeat (first | refine kN ?_ _ | refine kD ?_ | refine kA ?_ _)); exact BK183.out) hb); have n2_ := mK (bP (by repeat (first | (with_reducible first | exact HB.out | apply bA | apply bN | apply bD | refine bS ?_ GE182.out | refine bS ?_ GE183.out) | exact HB.out)) hb); clear BK182; clear BK183; clear HB; have BK182 := n0_; have BK183 := n1_; have HB := n2_; clear n0_ n1_ n2_; (try clear hb); have hnb28 := NB183_182.out; have hnc28 := NB182_183.out; obtain ⟨hcz29_0, hcz29_1, hcz29_2, hcz29_3, hcz29_4, hfz29_0, hfz29_1, hfz29_2, hfz29_3, hfz29_4⟩ := cf5 BK183.out) | ((with_reducible refine gate_callee (f := 10) rfl ?_); refine goesL_ (some 65) rfl rfl Try.func10 (by kernel_rfl) rfl #[.agg #[.int .i64 ((Int.tdiv a0 16777216) % 4294967296), .int .i64 x184001_3, .int .i64 x184002_11, .int .i64 x184003_15, .int .i64 (wrap64 (t188))]] rfl (by (try simp only [List.map_toArray, List.map_cons, List.map_nil]); first | done | rfl) ?_; (with_reducible refine (pascalineref02_Encode.calls kj19 ((Int.tdiv a0 16777216) % 4294967296) x184001_3 x184002_11 x184003_15 (wrap64 (t188)) t189 t190 _ A24.out).mono ?_); rintro e w30 ⟨rfl, hb⟩; refine ⟨_, rfl, ?_⟩; have n0_ := mK (kB (g := gb182) (o := o5 0 0 0 0 0 31) (by (with_reducible repeat (first | refine kN ?_ _ | refine kD ?_ | refine kA ?_ _)); refine kR ?_ NB182_183.out _; (with_reducible repeat (first | refine kN ?_ _ | refine kD ?_ | refine kA ?_ _)); exact BK182.out) hb); have n1_ := mK (kB (g := gb183) (o := .cells #[.int .i64 ((Int.tdiv a0 16777216) % 4294967296), .int .i64 x184001_3, .int .i64 x184002_11, .int .i64 x184003_15, .int .i64 (wrap64 (t188))] 31 (0, 0)) (by (with_reducible repeat (first | refine kN ?_ _ | refine kD ?_ | refine kA ?_ _)); refine kP (cs := #[.int .i64 ((Int.tdiv a0 16777216) % 4294967296), .int .i64 x184001_3, .int .i64 x184002_11, .int .i64 x184003_15, .int .i64 0]) ?_ 4 _ rfl; (with_reducible repeat (first | refine kN ?_ _ | refine kD ?_ | refine kA ?_ _)); exact BK183.out) hb); have n2_ := mK (bP (by repeat (first | (with_reducible first | exact HB.out | apply bA | apply bN | apply bD | refine bS ?_ GE182.out | refine bS ?_ GE183.out) | exact HB.out)) hb); clear BK182; clear BK183; clear HB; have BK182 := n0_; have BK183 := n1_; have HB := n2_; clear n0_ n1_ n2_; (try clear hb); obtain ⟨hcz31_0, hcz31_1, hcz31_2, hcz31_3, hcz31_4, hfz31_0, hfz31_1, hfz31_2, hfz31_3, hfz31_4⟩ := cf5 BK183.out; obtain ⟨hcz32_0, hcz32_1, hcz32_2, hcz32_3, hcz32_4, hfz32_0, hfz32_1, hfz32_2, hfz32_3, hfz32_4⟩ := cf5 BK182.out))
            refine bodyPost_ret (results_ct rfl _ _ gb182 31 #[.int .i64 ((Int.tdiv a0 16777216) % 4294967296), .int .i64 x184001_3, .int .i64 x184002_11, .int .i64 x184003_15, .int .i64 (wrap64 (t188))] (0, 0) _ rfl (by (with_reducible repeat (first | refine kN ?_ _ | refine kD ?_ | refine kA ?_ _)); refine kP (cs := #[.int .i64 ((Int.tdiv a0 16777216) % 4294967296), .int .i64 x184001_3, .int .i64 x184002_11, .int .i64 x184003_15, .int .i64 0]) ?_ 4 _ rfl; (with_reducible repeat (first | refine kN ?_ _ | refine kD ?_ | refine kA ?_ _)); refine kP (cs := #[.int .i64 ((Int.tdiv a0 16777216) % 4294967296), .int .i64 x184001_3, .int .i64 x184002_11, .int .i64 0, .int .i64 0]) ?_ 3 _ rfl; (with_reducible repeat (first | refine kN ?_ _ | refine kD ?_ | refine kA ?_ _)); refine kP (cs := #[.int .i64 ((Int.tdiv a0 16777216) % 4294967296), .int .i64 x184001_3, .int .i64 0, .int .i64 0, .int .i64 0]) ?_ 2 _ rfl; (with_reducible repeat (first | refine kN ?_ _ | refine kD ?_ | refine kA ?_ _)); refine kP (cs := #[.int .i64 ((Int.tdiv a0 16777216) % 4294967296), .int .i64 0, .int .i64 0, .int .i64 0, .int .i64 0]) ?_ 1 _ rfl; (with_reducible repeat (first | refine kN ?_ _ | refine kD ?_ | refine kA ?_ _)); refine kP (cs := #[.int .i64 0, .int .i64 0, .int .i64 0, .int .i64 0, .int .i64 0]) ?_ 0 _ rfl; (with_reducible repeat (first | refine kN ?_ _ | refine kD ?_ | refine kA ?_ _)); exact BK182.out) Try.underlying31 rfl (by kernel_rfl)) rfl ?_
            exact ⟨by first | rfl | (simp [errW_none, errW_some] <;> rfl) | (simp [*, errW_none, errW_some] <;> rfl), by repeat (first | (with_reducible first | exact HB.out | apply bA | apply bN | apply bD | refine bS ?_ GE182.out | refine bS ?_ GE183.out) | exact HB.out)⟩
           ·
            rw [if_neg c26] at H
            have c26b0 : (t189 == a0) = false := bQ c26
            have c26b1 : (t189 != a0) = true := bne_iff_ne.mpr c26
            simp only [Option.some.injEq, Prod.mk.injEq] at H
            obtain ⟨rfl, rfl, rfl, rfl, rfl, rfl⟩ := H
            go_wp2_with (first | ((with_reducible refine gate_callee (f := 31) rfl ?_); refine goesL_ (some 46) rfl rfl Try.func31 (by kernel_rfl) rfl #[.int .u32 a0, .int .i64 16] rfl (by (try simp only [List.map_toArray, List.map_cons, List.map_nil]); first | done | rfl) ?_; (with_reducible refine (pascalineref01_Sext.calls kj19 a0 16 t188 _ A23.out).mono ?_); rintro e w33 ⟨rfl, hb⟩; refine ⟨_, rfl, ?_⟩; have n0_ := mK (kB (g := gb182) (o := o5 0 0 0 0 0 31) (by (with_reducible repeat (first | refine kN ?_ _ | refine kD ?_ | refine kA ?_ _)); exact BK182.out) hb); have n1_ := mK (kB (g := gb183) (o := .cells #[.int .i64 ((Int.tdiv a0 16777216) % 4294967296), .int .i64 x184001_3, .int .i64 x184002_11, .int .i64 x184003_15, .int .i64 0] 31 (0, 0)) (by (with_reducible repeat (first | refine kN ?_ _ | refine kD ?_ | refine kA ?_ _)); exact BK183.out) hb); have n2_ := mK (bP (by repeat (first | (with_reducible first | exact HB.out | apply bA | apply bN | apply bD | refine bS ?_ GE182.out | refine bS ?_ GE183.out) | exact HB.out)) hb); clear BK182; clear BK183; clear HB; have BK182 := n0_; have BK183 := n1_; have HB := n2_; clear n0_ n1_ n2_; (try clear hb); have hnb34 := NB183_182.out; have hnc34 := NB182_183.out; obtain ⟨hcz35_0, hcz35_1, hcz35_2, hcz35_3, hcz35_4, hfz35_0, hfz35_1, hfz35_2, hfz35_3, hfz35_4⟩ := cf5 BK183.out) | ((with_reducible refine gate_callee (f := 10) rfl ?_); refine goesL_ (some 65) rfl rfl Try.func10 (by kernel_rfl) rfl #[.agg #[.int .i64 ((Int.tdiv a0 16777216) % 4294967296), .int .i64 x184001_3, .int .i64 x184002_11, .int .i64 x184003_15, .int .i64 (wrap64 (t188))]] rfl (by (try simp only [List.map_toArray, List.map_cons, List.map_nil]); first | done | rfl) ?_; (with_reducible refine (pascalineref02_Encode.calls kj19 ((Int.tdiv a0 16777216) % 4294967296) x184001_3 x184002_11 x184003_15 (wrap64 (t188)) t189 t190 _ A24.out).mono ?_); rintro e w36 ⟨rfl, hb⟩; refine ⟨_, rfl, ?_⟩; have n0_ := mK (kB (g := gb182) (o := o5 0 0 0 0 0 31) (by (with_reducible repeat (first | refine kN ?_ _ | refine kD ?_ | refine kA ?_ _)); refine kR ?_ NB182_183.out _; (with_reducible repeat (first | refine kN ?_ _ | refine kD ?_ | refine kA ?_ _)); exact BK182.out) hb); have n1_ := mK (kB (g := gb183) (o := .cells #[.int .i64 ((Int.tdiv a0 16777216) % 4294967296), .int .i64 x184001_3, .int .i64 x184002_11, .int .i64 x184003_15, .int .i64 (wrap64 (t188))] 31 (0, 0)) (by (with_reducible repeat (first | refine kN ?_ _ | refine kD ?_ | refine kA ?_ _)); refine kP (cs := #[.int .i64 ((Int.tdiv a0 16777216) % 4294967296), .int .i64 x184001_3, .int .i64 x184002_11, .int .i64 x184003_15, .int .i64 0]) ?_ 4 _ rfl; (with_reducible repeat (first | refine kN ?_ _ | refine kD ?_ | refine kA ?_ _)); exact BK183.out) hb); have n2_ := mK (bP (by repeat (first | (with_reducible first | exact HB.out | apply bA | apply bN | apply bD | refine bS ?_ GE182.out | refine bS ?_ GE183.out) | exact HB.out)) hb); clear BK182; clear BK183; clear HB; have BK182 := n0_; have BK183 := n1_; have HB := n2_; clear n0_ n1_ n2_; (try clear hb); obtain ⟨hcz37_0, hcz37_1, hcz37_2, hcz37_3, hcz37_4, hfz37_0, hfz37_1, hfz37_2, hfz37_3, hfz37_4⟩ := cf5 BK182.out))
            refine bodyPost_ret (results_ct rfl _ _ gb182 31 #[.int .i64 0, .int .i64 0, .int .i64 0, .int .i64 0, .int .i64 0] (0, 0) _ rfl (by (with_reducible repeat (first | refine kN ?_ _ | refine kD ?_ | refine kA ?_ _)); refine kP (cs := #[.int .i64 0, .int .i64 0, .int .i64 0, .int .i64 0, .int .i64 0]) ?_ 4 _ rfl; (with_reducible repeat (first | refine kN ?_ _ | refine kD ?_ | refine kA ?_ _)); refine kP (cs := #[.int .i64 0, .int .i64 0, .int .i64 0, .int .i64 0, .int .i64 0]) ?_ 3 _ rfl; (with_reducible repeat (first | refine kN ?_ _ | refine kD ?_ | refine kA ?_ _)); refine kP (cs := #[.int .i64 0, .int .i64 0, .int .i64 0, .int .i64 0, .int .i64 0]) ?_ 2 _ rfl; (with_reducible repeat (first | refine kN ?_ _ | refine kD ?_ | refine kA ?_ _)); refine kP (cs := #[.int .i64 0, .int .i64 0, .int .i64 0, .int .i64 0, .int .i64 0]) ?_ 1 _ rfl; (with_reducible repeat (first | refine kN ?_ _ | refine kD ?_ | refine kA ?_ _)); refine kP (cs := #[.int .i64 0, .int .i64 0, .int .i64 0, .int .i64 0, .int .i64 0]) ?_ 0 _ rfl; (with_reducible repeat (first | refine kN ?_ _ | refine kD ?_ | refine kA ?_ _)); exact BK182.out) Try.underlying31 rfl (by kernel_rfl)) rfl ?_
            exact ⟨by first | rfl | (simp [errW_none, errW_some] <;> rfl) | (simp [*, errW_none, errW_some] <;> rfl), by repeat (first | (with_reducible first | exact HB.out | apply bA | apply bN | apply bD | refine bS ?_ GE182.out | refine bS ?_ GE183.out) | exact HB.out)⟩
          ·
           rw [if_neg c25] at H
           have c25b0 : (t190 == 0) = false := bQ c25
           have c25b1 : (t190 != 0) = true := bne_iff_ne.mpr c25
           simp only [Option.some.injEq, Prod.mk.injEq] at H
           obtain ⟨rfl, rfl, rfl, rfl, rfl, rfl⟩ := H
           go_wp2_with (first | ((with_reducible refine gate_callee (f := 31) rfl ?_); refine goesL_ (some 46) rfl rfl Try.func31 (by kernel_rfl) rfl #[.int .u32 a0, .int .i64 16] rfl (by (try simp only [List.map_toArray, List.map_cons, List.map_nil]); first | done | rfl) ?_; (with_reducible refine (pascalineref01_Sext.calls kj19 a0 16 t188 _ A23.out).mono ?_); rintro e w38 ⟨rfl, hb⟩; refine ⟨_, rfl, ?_⟩; have n0_ := mK (kB (g := gb182) (o := o5 0 0 0 0 0 31) (by (with_reducible repeat (first | refine kN ?_ _ | refine kD ?_ | refine kA ?_ _)); exact BK182.out) hb); have n1_ := mK (kB (g := gb183) (o := .cells #[.int .i64 ((Int.tdiv a0 16777216) % 4294967296), .int .i64 x184001_3, .int .i64 x184002_11, .int .i64 x184003_15, .int .i64 0] 31 (0, 0)) (by (with_reducible repeat (first | refine kN ?_ _ | refine kD ?_ | refine kA ?_ _)); exact BK183.out) hb); have n2_ := mK (bP (by repeat (first | (with_reducible first | exact HB.out | apply bA | apply bN | apply bD | refine bS ?_ GE182.out | refine bS ?_ GE183.out) | exact HB.out)) hb); clear BK182; clear BK183; clear HB; have BK182 := n0_; have BK183 := n1_; have HB := n2_; clear n0_ n1_ n2_; (try clear hb); have hnb39 := NB183_182.out; have hnc39 := NB182_183.out; obtain ⟨hcz40_0, hcz40_1, hcz40_2, hcz40_3, hcz40_4, hfz40_0, hfz40_1, hfz40_2, hfz40_3, hfz40_4⟩ := cf5 BK183.out) | ((with_reducible refine gate_callee (f := 10) rfl ?_); refine goesL_ (some 65) rfl rfl Try.func10 (by kernel_rfl) rfl #[.agg #[.int .i64 ((Int.tdiv a0 16777216) % 4294967296), .int .i64 x184001_3, .int .i64 x184002_11, .int .i64 x184003_15, .int .i64 (wrap64 (t188))]] rfl (by (try simp only [List.map_toArray, List.map_cons, List.map_nil]); first | done | rfl) ?_; (with_reducible refine (pascalineref02_Encode.calls kj19 ((Int.tdiv a0 16777216) % 4294967296) x184001_3 x184002_11 x184003_15 (wrap64 (t188)) t189 t190 _ A24.out).mono ?_); rintro e w41 ⟨rfl, hb⟩; refine ⟨_, rfl, ?_⟩; have n0_ := mK (kB (g := gb182) (o := o5 0 0 0 0 0 31) (by (with_reducible repeat (first | refine kN ?_ _ | refine kD ?_ | refine kA ?_ _)); refine kR ?_ NB182_183.out _; (with_reducible repeat (first | refine kN ?_ _ | refine kD ?_ | refine kA ?_ _)); exact BK182.out) hb); have n1_ := mK (kB (g := gb183) (o := .cells #[.int .i64 ((Int.tdiv a0 16777216) % 4294967296), .int .i64 x184001_3, .int .i64 x184002_11, .int .i64 x184003_15, .int .i64 (wrap64 (t188))] 31 (0, 0)) (by (with_reducible repeat (first | refine kN ?_ _ | refine kD ?_ | refine kA ?_ _)); refine kP (cs := #[.int .i64 ((Int.tdiv a0 16777216) % 4294967296), .int .i64 x184001_3, .int .i64 x184002_11, .int .i64 x184003_15, .int .i64 0]) ?_ 4 _ rfl; (with_reducible repeat (first | refine kN ?_ _ | refine kD ?_ | refine kA ?_ _)); exact BK183.out) hb); have n2_ := mK (bP (by repeat (first | (with_reducible first | exact HB.out | apply bA | apply bN | apply bD | refine bS ?_ GE182.out | refine bS ?_ GE183.out) | exact HB.out)) hb); clear BK182; clear BK183; clear HB; have BK182 := n0_; have BK183 := n1_; have HB := n2_; clear n0_ n1_ n2_; (try clear hb); obtain ⟨hcz42_0, hcz42_1, hcz42_2, hcz42_3, hcz42_4, hfz42_0, hfz42_1, hfz42_2, hfz42_3, hfz42_4⟩ := cf5 BK182.out))
           refine bodyPost_ret (results_ct rfl _ _ gb182 31 #[.int .i64 0, .int .i64 0, .int .i64 0, .int .i64 0, .int .i64 0] (0, 0) _ rfl (by (with_reducible repeat (first | refine kN ?_ _ | refine kD ?_ | refine kA ?_ _)); refine kP (cs := #[.int .i64 0, .int .i64 0, .int .i64 0, .int .i64 0, .int .i64 0]) ?_ 4 _ rfl; (with_reducible repeat (first | refine kN ?_ _ | refine kD ?_ | refine kA ?_ _)); refine kP (cs := #[.int .i64 0, .int .i64 0, .int .i64 0, .int .i64 0, .int .i64 0]) ?_ 3 _ rfl; (with_reducible repeat (first | refine kN ?_ _ | refine kD ?_ | refine kA ?_ _)); refine kP (cs := #[.int .i64 0, .int .i64 0, .int .i64 0, .int .i64 0, .int .i64 0]) ?_ 2 _ rfl; (with_reducible repeat (first | refine kN ?_ _ | refine kD ?_ | refine kA ?_ _)); refine kP (cs := #[.int .i64 0, .int .i64 0, .int .i64 0, .int .i64 0, .int .i64 0]) ?_ 1 _ rfl; (with_reducible repeat (first | refine kN ?_ _ | refine kD ?_ | refine kA ?_ _)); refine kP (cs := #[.int .i64 0, .int .i64 0, .int .i64 0, .int .i64 0, .int .i64 0]) ?_ 0 _ rfl; (with_reducible repeat (first | refine kN ?_ _ | refine kD ?_ | refine kA ?_ _)); exact BK182.out) Try.underlying31 rfl (by kernel_rfl)) rfl ?_
           exact ⟨by first | rfl | (simp [errW_none, errW_some] <;> rfl) | (simp [*, errW_none, errW_some] <;> rfl), by repeat (first | (with_reducible first | exact HB.out | apply bA | apply bN | apply bD | refine bS ?_ GE182.out | refine bS ?_ GE183.out) | exact HB.out)⟩
         ·
          replace c22 := Bool.eq_false_iff.mpr c22
          subst c22
          have H1 : (if t184 = 2 then (pascalineref02_Decode.j4 kj19 a0 t184 (t184 == 2) ((Int.tdiv a0 16777216) % 4294967296) x184001_3 x184002_11 x184003_15 0) else (if t184 = 4 then (pascalineref02_Decode.j4 kj19 a0 t184 (t184 == 4) ((Int.tdiv a0 16777216) % 4294967296) x184001_3 x184002_11 x184003_15 0) else (pascalineref02_Decode.j4 kj19 a0 t184 (t184 == 8) ((Int.tdiv a0 16777216) % 4294967296) x184001_3 x184002_11 x184003_15 0))) = some (r1, r2, r3, r4, r5, r6) := by rw [if_neg (show ¬ (false = true) by decide)] at H; exact H
          clear H
          have H := H1
          clear H1
          have HC43 := mK H
          clear H
          go_upto_if 49 with (fail)
          go_cut [49] (fun v49 wc => ∃ (kq : Nat) (x49_42 : Bool), v49 = .bool x49_42 ∧ Aside0 (pascalineref02_Decode.j4 kq a0 t184 x49_42 ((Int.tdiv a0 16777216) % 4294967296) x184001_3 x184002_11 x184003_15 0 = some (r1, r2, r3, r4, r5, r6)) ∧ Aside0 (kq ≤ kj19) ∧ Aside0 (wc.heap[gb182]? = some (o5 0 0 0 0 0 31)) ∧ Aside0 (wc.heap[gb183]? = some (.cells #[.int .i64 ((Int.tdiv a0 16777216) % 4294967296), .int .i64 x184001_3, .int .i64 x184002_11, .int .i64 x184003_15, .int .i64 0] 31 (0, 0))) ∧ Aside0 (Below w.heap.size w wc))
          case first =>
           have H := HC43.out
           clear HC43
           by_cases c44 : t184 = 2
           ·
            rw [if_pos c44] at H
            have c44b0 : (t184 == 2) = true := beq_iff_eq.mpr c44
            have c44b1 : (t184 != 2) = false := bR c44
            clear c44
            (first | rw [c44b0] | (simp only [i64_w, i32_w]; rw [c44b0]) | skip)
            have H' := mK H
            clear H
            go_wp2
            go_meet
            case rel => exact ⟨_, ((t184 == 2)), (by first | rfl | (simp; done) | (simp [*]; done)), H', ⟨by have := HJ3.out; have := HJ11.out; have := HJ15.out; have := HJ19.out; first | omega | exact Nat.le_refl _⟩, ⟨by (with_reducible repeat (first | refine kN ?_ _ | refine kD ?_ | refine kA ?_ _)); exact BK182.out⟩, ⟨by (with_reducible repeat (first | refine kN ?_ _ | refine kD ?_ | refine kA ?_ _)); exact BK183.out⟩, ⟨by repeat (first | (with_reducible first | exact HB.out | apply bA | apply bN | apply bD | refine bS ?_ GE182.out | refine bS ?_ GE183.out) | exact HB.out)⟩⟩
           ·
            rw [if_neg c44] at H
            have c44b0 : (t184 == 2) = false := bQ c44
            have c44b1 : (t184 != 2) = true := bne_iff_ne.mpr c44
            (first | rw [c44b0] | (simp only [i64_w, i32_w]; rw [c44b0]) | skip)
            by_cases c45 : t184 = 4
            ·
             rw [if_pos c45] at H
             have c45b0 : (t184 == 4) = true := beq_iff_eq.mpr c45
             have c45b1 : (t184 != 4) = false := bR c45
             clear c45
             have H' := mK H
             clear H
             go_wp2
             go_meet
             case rel => exact ⟨_, ((t184 == 4)), (by first | rfl | (simp; done) | (simp [*]; done)), H', ⟨by have := HJ3.out; have := HJ11.out; have := HJ15.out; have := HJ19.out; first | omega | exact Nat.le_refl _⟩, ⟨by (with_reducible repeat (first | refine kN ?_ _ | refine kD ?_ | refine kA ?_ _)); exact BK182.out⟩, ⟨by (with_reducible repeat (first | refine kN ?_ _ | refine kD ?_ | refine kA ?_ _)); exact BK183.out⟩, ⟨by repeat (first | (with_reducible first | exact HB.out | apply bA | apply bN | apply bD | refine bS ?_ GE182.out | refine bS ?_ GE183.out) | exact HB.out)⟩⟩
            ·
             rw [if_neg c45] at H
             have c45b0 : (t184 == 4) = false := bQ c45
             have c45b1 : (t184 != 4) = true := bne_iff_ne.mpr c45
             have H' := mK H
             clear H
             go_wp2
             go_meet
             case rel => exact ⟨_, ((t184 == 8)), (by first | rfl | (simp; done) | (simp [*]; done)), H', ⟨by have := HJ3.out; have := HJ11.out; have := HJ15.out; have := HJ19.out; first | omega | exact Nat.le_refl _⟩, ⟨by (with_reducible repeat (first | refine kN ?_ _ | refine kD ?_ | refine kA ?_ _)); exact BK182.out⟩, ⟨by (with_reducible repeat (first | refine kN ?_ _ | refine kD ?_ | refine kA ?_ _)); exact BK183.out⟩, ⟨by repeat (first | (with_reducible first | exact HB.out | apply bA | apply bN | apply bD | refine bS ?_ GE182.out | refine bS ?_ GE183.out) | exact HB.out)⟩⟩
          case rest =>
           clear HC43
           (try clear c22); (try clear hcz8_0); (try clear hcz8_1); (try clear hcz8_2); (try clear hcz8_3); (try clear hcz8_4); (try clear hfz8_0); (try clear hfz8_1); (try clear hfz8_2); (try clear hfz8_3); (try clear hfz8_4)
           obtain ⟨kq, x49_42, rfl, HA, HJ42, BK182, BK183, HB⟩ := hcut
           cases kq with
           | zero => exact absurd HA.out (by simp [pascalineref02_Decode.j4])
           | succ kj42 =>
            have H := HA.out
            clear HA
            simp only [pascalineref02_Decode.j4] at H
            by_cases c46 : x49_42 = true
            ·
             subst c46
             have H1 : ((pascalineref02_Encode.f kj42 ((Int.tdiv a0 16777216) % 4294967296) x184001_3 x184002_11 x184003_15 (wrap64 (Int.tmod a0 65536))).bind fun bt191 => (if bt191.2 = 0 then (if bt191.1 = a0 then (some (((Int.tdiv a0 16777216) % 4294967296), x184001_3, x184002_11, x184003_15, wrap64 (Int.tmod a0 65536), 0)) else (some (0, 0, 0, 0, 0, 21))) else (some (0, 0, 0, 0, 0, 21)))) = some (r1, r2, r3, r4, r5, r6) := by rw [if_pos rfl] at H; exact H
             clear H
             have H := H1
             clear H1
             replace H := oB H
             obtain ⟨⟨t191, t192⟩, A470, H⟩ := H
             replace H : (if t192 = 0 then (if t191 = a0 then (some (((Int.tdiv a0 16777216) % 4294967296), x184001_3, x184002_11, x184003_15, wrap64 (Int.tmod a0 65536), 0)) else (some (0, 0, 0, 0, 0, 21))) else (some (0, 0, 0, 0, 0, 21))) = some (r1, r2, r3, r4, r5, r6) := H
             have A47 := mK A470
             clear A470
             by_cases c48 : t192 = 0
             ·
              rw [if_pos c48] at H
              have c48b0 : (t192 == 0) = true := beq_iff_eq.mpr c48
              have c48b1 : (t192 != 0) = false := bR c48
              clear c48
              by_cases c49 : t191 = a0
              ·
               rw [if_pos c49] at H
               have c49b0 : (t191 == a0) = true := beq_iff_eq.mpr c49
               have c49b1 : (t191 != a0) = false := bR c49
               clear c49
               simp only [Option.some.injEq, Prod.mk.injEq] at H
               obtain ⟨rfl, rfl, rfl, rfl, rfl, rfl⟩ := H
               have hnb50 := NB183_182.out
               have hnc50 := NB182_183.out
               obtain ⟨hcz51_0, hcz51_1, hcz51_2, hcz51_3, hcz51_4, hfz51_0, hfz51_1, hfz51_2, hfz51_3, hfz51_4⟩ := cf5 BK183.out
               go_wp2_with (first | ((with_reducible refine gate_callee (f := 10) rfl ?_); refine goesL_ (some 65) rfl rfl Try.func10 (by kernel_rfl) rfl #[.agg #[.int .i64 ((Int.tdiv a0 16777216) % 4294967296), .int .i64 x184001_3, .int .i64 x184002_11, .int .i64 x184003_15, .int .i64 (wrap64 (Int.tmod a0 65536))]] rfl (by (try simp only [List.map_toArray, List.map_cons, List.map_nil]); first | done | rfl) ?_; (with_reducible refine (pascalineref02_Encode.calls kj42 ((Int.tdiv a0 16777216) % 4294967296) x184001_3 x184002_11 x184003_15 (wrap64 (Int.tmod a0 65536)) t191 t192 _ A47.out).mono ?_); rintro e w52 ⟨rfl, hb⟩; refine ⟨_, rfl, ?_⟩; have n0_ := mK (kB (g := gb182) (o := o5 0 0 0 0 0 31) (by (with_reducible repeat (first | refine kN ?_ _ | refine kD ?_ | refine kA ?_ _)); refine kR ?_ NB182_183.out _; (with_reducible repeat (first | refine kN ?_ _ | refine kD ?_ | refine kA ?_ _)); exact BK182.out) hb); have n1_ := mK (kB (g := gb183) (o := .cells #[.int .i64 ((Int.tdiv a0 16777216) % 4294967296), .int .i64 x184001_3, .int .i64 x184002_11, .int .i64 x184003_15, .int .i64 (wrap64 (Int.tmod a0 65536))] 31 (0, 0)) (by (with_reducible repeat (first | refine kN ?_ _ | refine kD ?_ | refine kA ?_ _)); refine kP (cs := #[.int .i64 ((Int.tdiv a0 16777216) % 4294967296), .int .i64 x184001_3, .int .i64 x184002_11, .int .i64 x184003_15, .int .i64 0]) ?_ 4 _ rfl; (with_reducible repeat (first | refine kN ?_ _ | refine kD ?_ | refine kA ?_ _)); exact BK183.out) hb); have n2_ := mK (bP (by repeat (first | (with_reducible first | exact HB.out | apply bA | apply bN | apply bD | refine bS ?_ GE182.out | refine bS ?_ GE183.out) | exact HB.out)) hb); clear BK182; clear BK183; clear HB; have BK182 := n0_; have BK183 := n1_; have HB := n2_; clear n0_ n1_ n2_; (try clear hb); obtain ⟨hcz53_0, hcz53_1, hcz53_2, hcz53_3, hcz53_4, hfz53_0, hfz53_1, hfz53_2, hfz53_3, hfz53_4⟩ := cf5 BK183.out; obtain ⟨hcz54_0, hcz54_1, hcz54_2, hcz54_3, hcz54_4, hfz54_0, hfz54_1, hfz54_2, hfz54_3, hfz54_4⟩ := cf5 BK182.out))
               refine bodyPost_ret (results_ct rfl _ _ gb182 31 #[.int .i64 ((Int.tdiv a0 16777216) % 4294967296), .int .i64 x184001_3, .int .i64 x184002_11, .int .i64 x184003_15, .int .i64 (wrap64 (Int.tmod a0 65536))] (0, 0) _ rfl (by (with_reducible repeat (first | refine kN ?_ _ | refine kD ?_ | refine kA ?_ _)); refine kP (cs := #[.int .i64 ((Int.tdiv a0 16777216) % 4294967296), .int .i64 x184001_3, .int .i64 x184002_11, .int .i64 x184003_15, .int .i64 0]) ?_ 4 _ rfl; (with_reducible repeat (first | refine kN ?_ _ | refine kD ?_ | refine kA ?_ _)); refine kP (cs := #[.int .i64 ((Int.tdiv a0 16777216) % 4294967296), .int .i64 x184001_3, .int .i64 x184002_11, .int .i64 0, .int .i64 0]) ?_ 3 _ rfl; (with_reducible repeat (first | refine kN ?_ _ | refine kD ?_ | refine kA ?_ _)); refine kP (cs := #[.int .i64 ((Int.tdiv a0 16777216) % 4294967296), .int .i64 x184001_3, .int .i64 0, .int .i64 0, .int .i64 0]) ?_ 2 _ rfl; (with_reducible repeat (first | refine kN ?_ _ | refine kD ?_ | refine kA ?_ _)); refine kP (cs := #[.int .i64 ((Int.tdiv a0 16777216) % 4294967296), .int .i64 0, .int .i64 0, .int .i64 0, .int .i64 0]) ?_ 1 _ rfl; (with_reducible repeat (first | refine kN ?_ _ | refine kD ?_ | refine kA ?_ _)); refine kP (cs := #[.int .i64 0, .int .i64 0, .int .i64 0, .int .i64 0, .int .i64 0]) ?_ 0 _ rfl; (with_reducible repeat (first | refine kN ?_ _ | refine kD ?_ | refine kA ?_ _)); exact BK182.out) Try.underlying31 rfl (by kernel_rfl)) rfl ?_
               exact ⟨by first | rfl | (simp [errW_none, errW_some] <;> rfl) | (simp [*, errW_none, errW_some] <;> rfl), by repeat (first | (with_reducible first | exact HB.out | apply bA | apply bN | apply bD | refine bS ?_ GE182.out | refine bS ?_ GE183.out) | exact HB.out)⟩
              ·
               rw [if_neg c49] at H
               have c49b0 : (t191 == a0) = false := bQ c49
               have c49b1 : (t191 != a0) = true := bne_iff_ne.mpr c49
               simp only [Option.some.injEq, Prod.mk.injEq] at H
               obtain ⟨rfl, rfl, rfl, rfl, rfl, rfl⟩ := H
               have hnb55 := NB183_182.out
               have hnc55 := NB182_183.out
               obtain ⟨hcz56_0, hcz56_1, hcz56_2, hcz56_3, hcz56_4, hfz56_0, hfz56_1, hfz56_2, hfz56_3, hfz56_4⟩ := cf5 BK183.out
               go_wp2_with (first | ((with_reducible refine gate_callee (f := 10) rfl ?_); refine goesL_ (some 65) rfl rfl Try.func10 (by kernel_rfl) rfl #[.agg #[.int .i64 ((Int.tdiv a0 16777216) % 4294967296), .int .i64 x184001_3, .int .i64 x184002_11, .int .i64 x184003_15, .int .i64 (wrap64 (Int.tmod a0 65536))]] rfl (by (try simp only [List.map_toArray, List.map_cons, List.map_nil]); first | done | rfl) ?_; (with_reducible refine (pascalineref02_Encode.calls kj42 ((Int.tdiv a0 16777216) % 4294967296) x184001_3 x184002_11 x184003_15 (wrap64 (Int.tmod a0 65536)) t191 t192 _ A47.out).mono ?_); rintro e w57 ⟨rfl, hb⟩; refine ⟨_, rfl, ?_⟩; have n0_ := mK (kB (g := gb182) (o := o5 0 0 0 0 0 31) (by (with_reducible repeat (first | refine kN ?_ _ | refine kD ?_ | refine kA ?_ _)); refine kR ?_ NB182_183.out _; (with_reducible repeat (first | refine kN ?_ _ | refine kD ?_ | refine kA ?_ _)); exact BK182.out) hb); have n1_ := mK (kB (g := gb183) (o := .cells #[.int .i64 ((Int.tdiv a0 16777216) % 4294967296), .int .i64 x184001_3, .int .i64 x184002_11, .int .i64 x184003_15, .int .i64 (wrap64 (Int.tmod a0 65536))] 31 (0, 0)) (by (with_reducible repeat (first | refine kN ?_ _ | refine kD ?_ | refine kA ?_ _)); refine kP (cs := #[.int .i64 ((Int.tdiv a0 16777216) % 4294967296), .int .i64 x184001_3, .int .i64 x184002_11, .int .i64 x184003_15, .int .i64 0]) ?_ 4 _ rfl; (with_reducible repeat (first | refine kN ?_ _ | refine kD ?_ | refine kA ?_ _)); exact BK183.out) hb); have n2_ := mK (bP (by repeat (first | (with_reducible first | exact HB.out | apply bA | apply bN | apply bD | refine bS ?_ GE182.out | refine bS ?_ GE183.out) | exact HB.out)) hb); clear BK182; clear BK183; clear HB; have BK182 := n0_; have BK183 := n1_; have HB := n2_; clear n0_ n1_ n2_; (try clear hb); obtain ⟨hcz58_0, hcz58_1, hcz58_2, hcz58_3, hcz58_4, hfz58_0, hfz58_1, hfz58_2, hfz58_3, hfz58_4⟩ := cf5 BK182.out))
               refine bodyPost_ret (results_ct rfl _ _ gb182 31 #[.int .i64 0, .int .i64 0, .int .i64 0, .int .i64 0, .int .i64 0] (0, 0) _ rfl (by (with_reducible repeat (first | refine kN ?_ _ | refine kD ?_ | refine kA ?_ _)); refine kP (cs := #[.int .i64 0, .int .i64 0, .int .i64 0, .int .i64 0, .int .i64 0]) ?_ 4 _ rfl; (with_reducible repeat (first | refine kN ?_ _ | refine kD ?_ | refine kA ?_ _)); refine kP (cs := #[.int .i64 0, .int .i64 0, .int .i64 0, .int .i64 0, .int .i64 0]) ?_ 3 _ rfl; (with_reducible repeat (first | refine kN ?_ _ | refine kD ?_ | refine kA ?_ _)); refine kP (cs := #[.int .i64 0, .int .i64 0, .int .i64 0, .int .i64 0, .int .i64 0]) ?_ 2 _ rfl; (with_reducible repeat (first | refine kN ?_ _ | refine kD ?_ | refine kA ?_ _)); refine kP (cs := #[.int .i64 0, .int .i64 0, .int .i64 0, .int .i64 0, .int .i64 0]) ?_ 1 _ rfl; (with_reducible repeat (first | refine kN ?_ _ | refine kD ?_ | refine kA ?_ _)); refine kP (cs := #[.int .i64 0, .int .i64 0, .int .i64 0, .int .i64 0, .int .i64 0]) ?_ 0 _ rfl; (with_reducible repeat (first | refine kN ?_ _ | refine kD ?_ | refine kA ?_ _)); exact BK182.out) Try.underlying31 rfl (by kernel_rfl)) rfl ?_
               exact ⟨by first | rfl | (simp [errW_none, errW_some] <;> rfl) | (simp [*, errW_none, errW_some] <;> rfl), by repeat (first | (with_reducible first | exact HB.out | apply bA | apply bN | apply bD | refine bS ?_ GE182.out | refine bS ?_ GE183.out) | exact HB.out)⟩
             ·
              rw [if_neg c48] at H
              have c48b0 : (t192 == 0) = false := bQ c48
              have c48b1 : (t192 != 0) = true := bne_iff_ne.mpr c48
              simp only [Option.some.injEq, Prod.mk.injEq] at H
              obtain ⟨rfl, rfl, rfl, rfl, rfl, rfl⟩ := H
              have hnb59 := NB183_182.out
              have hnc59 := NB182_183.out
              obtain ⟨hcz60_0, hcz60_1, hcz60_2, hcz60_3, hcz60_4, hfz60_0, hfz60_1, hfz60_2, hfz60_3, hfz60_4⟩ := cf5 BK183.out
              go_wp2_with (first | ((with_reducible refine gate_callee (f := 10) rfl ?_); refine goesL_ (some 65) rfl rfl Try.func10 (by kernel_rfl) rfl #[.agg #[.int .i64 ((Int.tdiv a0 16777216) % 4294967296), .int .i64 x184001_3, .int .i64 x184002_11, .int .i64 x184003_15, .int .i64 (wrap64 (Int.tmod a0 65536))]] rfl (by (try simp only [List.map_toArray, List.map_cons, List.map_nil]); first | done | rfl) ?_; (with_reducible refine (pascalineref02_Encode.calls kj42 ((Int.tdiv a0 16777216) % 4294967296) x184001_3 x184002_11 x184003_15 (wrap64 (Int.tmod a0 65536)) t191 t192 _ A47.out).mono ?_); rintro e w61 ⟨rfl, hb⟩; refine ⟨_, rfl, ?_⟩; have n0_ := mK (kB (g := gb182) (o := o5 0 0 0 0 0 31) (by (with_reducible repeat (first | refine kN ?_ _ | refine kD ?_ | refine kA ?_ _)); refine kR ?_ NB182_183.out _; (with_reducible repeat (first | refine kN ?_ _ | refine kD ?_ | refine kA ?_ _)); exact BK182.out) hb); have n1_ := mK (kB (g := gb183) (o := .cells #[.int .i64 ((Int.tdiv a0 16777216) % 4294967296), .int .i64 x184001_3, .int .i64 x184002_11, .int .i64 x184003_15, .int .i64 (wrap64 (Int.tmod a0 65536))] 31 (0, 0)) (by (with_reducible repeat (first | refine kN ?_ _ | refine kD ?_ | refine kA ?_ _)); refine kP (cs := #[.int .i64 ((Int.tdiv a0 16777216) % 4294967296), .int .i64 x184001_3, .int .i64 x184002_11, .int .i64 x184003_15, .int .i64 0]) ?_ 4 _ rfl; (with_reducible repeat (first | refine kN ?_ _ | refine kD ?_ | refine kA ?_ _)); exact BK183.out) hb); have n2_ := mK (bP (by repeat (first | (with_reducible first | exact HB.out | apply bA | apply bN | apply bD | refine bS ?_ GE182.out | refine bS ?_ GE183.out) | exact HB.out)) hb); clear BK182; clear BK183; clear HB; have BK182 := n0_; have BK183 := n1_; have HB := n2_; clear n0_ n1_ n2_; (try clear hb); obtain ⟨hcz62_0, hcz62_1, hcz62_2, hcz62_3, hcz62_4, hfz62_0, hfz62_1, hfz62_2, hfz62_3, hfz62_4⟩ := cf5 BK182.out))
              refine bodyPost_ret (results_ct rfl _ _ gb182 31 #[.int .i64 0, .int .i64 0, .int .i64 0, .int .i64 0, .int .i64 0] (0, 0) _ rfl (by (with_reducible repeat (first | refine kN ?_ _ | refine kD ?_ | refine kA ?_ _)); refine kP (cs := #[.int .i64 0, .int .i64 0, .int .i64 0, .int .i64 0, .int .i64 0]) ?_ 4 _ rfl; (with_reducible repeat (first | refine kN ?_ _ | refine kD ?_ | refine kA ?_ _)); refine kP (cs := #[.int .i64 0, .int .i64 0, .int .i64 0, .int .i64 0, .int .i64 0]) ?_ 3 _ rfl; (with_reducible repeat (first | refine kN ?_ _ | refine kD ?_ | refine kA ?_ _)); refine kP (cs := #[.int .i64 0, .int .i64 0, .int .i64 0, .int .i64 0, .int .i64 0]) ?_ 2 _ rfl; (with_reducible repeat (first | refine kN ?_ _ | refine kD ?_ | refine kA ?_ _)); refine kP (cs := #[.int .i64 0, .int .i64 0, .int .i64 0, .int .i64 0, .int .i64 0]) ?_ 1 _ rfl; (with_reducible repeat (first | refine kN ?_ _ | refine kD ?_ | refine kA ?_ _)); refine kP (cs := #[.int .i64 0, .int .i64 0, .int .i64 0, .int .i64 0, .int .i64 0]) ?_ 0 _ rfl; (with_reducible repeat (first | refine kN ?_ _ | refine kD ?_ | refine kA ?_ _)); exact BK182.out) Try.underlying31 rfl (by kernel_rfl)) rfl ?_
              exact ⟨by first | rfl | (simp [errW_none, errW_some] <;> rfl) | (simp [*, errW_none, errW_some] <;> rfl), by repeat (first | (with_reducible first | exact HB.out | apply bA | apply bN | apply bD | refine bS ?_ GE182.out | refine bS ?_ GE183.out) | exact HB.out)⟩
            ·
             replace c46 := Bool.eq_false_iff.mpr c46
             subst c46
             have H1 : (if t184 = 7 then ((pascalineref01_Sext.f kj42 a0 24).bind fun t193 => ((pascalineref02_Encode.f kj42 ((Int.tdiv a0 16777216) % 4294967296) x184001_3 x184002_11 x184003_15 (wrap64 (t193))).bind fun bt194 => (if bt194.2 = 0 then (if bt194.1 = a0 then (some (((Int.tdiv a0 16777216) % 4294967296), x184001_3, x184002_11, x184003_15, wrap64 (t193), 0)) else (some (0, 0, 0, 0, 0, 21))) else (some (0, 0, 0, 0, 0, 21))))) else ((pascalineref02_Encode.f kj42 ((Int.tdiv a0 16777216) % 4294967296) x184001_3 x184002_11 x184003_15 0).bind fun bt196 => (if bt196.2 = 0 then (if bt196.1 = a0 then (some (((Int.tdiv a0 16777216) % 4294967296), x184001_3, x184002_11, x184003_15, 0, 0)) else (some (0, 0, 0, 0, 0, 21))) else (some (0, 0, 0, 0, 0, 21))))) = some (r1, r2, r3, r4, r5, r6) := by rw [if_neg (show ¬ (false = true) by decide)] at H; exact H
             clear H
             have H := H1
             clear H1
             by_cases c63 : t184 = 7
             ·
              rw [if_pos c63] at H
              have c63b0 : (t184 == 7) = true := beq_iff_eq.mpr c63
              have c63b1 : (t184 != 7) = false := bR c63
              clear c63
              replace H := oB H
              obtain ⟨t193, A640, H⟩ := H
              replace H : ((pascalineref02_Encode.f kj42 ((Int.tdiv a0 16777216) % 4294967296) x184001_3 x184002_11 x184003_15 (wrap64 (t193))).bind fun bt194 => (if bt194.2 = 0 then (if bt194.1 = a0 then (some (((Int.tdiv a0 16777216) % 4294967296), x184001_3, x184002_11, x184003_15, wrap64 (t193), 0)) else (some (0, 0, 0, 0, 0, 21))) else (some (0, 0, 0, 0, 0, 21)))) = some (r1, r2, r3, r4, r5, r6) := H
              have A64 := mK A640
              clear A640
              replace H := oB H
              obtain ⟨⟨t194, t195⟩, A650, H⟩ := H
              replace H : (if t195 = 0 then (if t194 = a0 then (some (((Int.tdiv a0 16777216) % 4294967296), x184001_3, x184002_11, x184003_15, wrap64 (t193), 0)) else (some (0, 0, 0, 0, 0, 21))) else (some (0, 0, 0, 0, 0, 21))) = some (r1, r2, r3, r4, r5, r6) := H
              have A65 := mK A650
              clear A650
              by_cases c66 : t195 = 0
              ·
               rw [if_pos c66] at H
               have c66b0 : (t195 == 0) = true := beq_iff_eq.mpr c66
               have c66b1 : (t195 != 0) = false := bR c66
               clear c66
               by_cases c67 : t194 = a0
               ·
                rw [if_pos c67] at H
                have c67b0 : (t194 == a0) = true := beq_iff_eq.mpr c67
                have c67b1 : (t194 != a0) = false := bR c67
                clear c67
                simp only [Option.some.injEq, Prod.mk.injEq] at H
                obtain ⟨rfl, rfl, rfl, rfl, rfl, rfl⟩ := H
                go_wp2_with (first | ((with_reducible refine gate_callee (f := 31) rfl ?_); refine goesL_ (some 60) rfl rfl Try.func31 (by kernel_rfl) rfl #[.int .u32 a0, .int .i64 24] rfl (by (try simp only [List.map_toArray, List.map_cons, List.map_nil]); first | done | rfl) ?_; (with_reducible refine (pascalineref01_Sext.calls kj42 a0 24 t193 _ A64.out).mono ?_); rintro e w68 ⟨rfl, hb⟩; refine ⟨_, rfl, ?_⟩; have n0_ := mK (kB (g := gb182) (o := o5 0 0 0 0 0 31) (by (with_reducible repeat (first | refine kN ?_ _ | refine kD ?_ | refine kA ?_ _)); exact BK182.out) hb); have n1_ := mK (kB (g := gb183) (o := .cells #[.int .i64 ((Int.tdiv a0 16777216) % 4294967296), .int .i64 x184001_3, .int .i64 x184002_11, .int .i64 x184003_15, .int .i64 0] 31 (0, 0)) (by (with_reducible repeat (first | refine kN ?_ _ | refine kD ?_ | refine kA ?_ _)); exact BK183.out) hb); have n2_ := mK (bP (by repeat (first | (with_reducible first | exact HB.out | apply bA | apply bN | apply bD | refine bS ?_ GE182.out | refine bS ?_ GE183.out) | exact HB.out)) hb); clear BK182; clear BK183; clear HB; have BK182 := n0_; have BK183 := n1_; have HB := n2_; clear n0_ n1_ n2_; (try clear hb); have hnb69 := NB183_182.out; have hnc69 := NB182_183.out; obtain ⟨hcz70_0, hcz70_1, hcz70_2, hcz70_3, hcz70_4, hfz70_0, hfz70_1, hfz70_2, hfz70_3, hfz70_4⟩ := cf5 BK183.out) | ((with_reducible refine gate_callee (f := 10) rfl ?_); refine goesL_ (some 65) rfl rfl Try.func10 (by kernel_rfl) rfl #[.agg #[.int .i64 ((Int.tdiv a0 16777216) % 4294967296), .int .i64 x184001_3, .int .i64 x184002_11, .int .i64 x184003_15, .int .i64 (wrap64 (t193))]] rfl (by (try simp only [List.map_toArray, List.map_cons, List.map_nil]); first | done | rfl) ?_; (with_reducible refine (pascalineref02_Encode.calls kj42 ((Int.tdiv a0 16777216) % 4294967296) x184001_3 x184002_11 x184003_15 (wrap64 (t193)) t194 t195 _ A65.out).mono ?_); rintro e w71 ⟨rfl, hb⟩; refine ⟨_, rfl, ?_⟩; have n0_ := mK (kB (g := gb182) (o := o5 0 0 0 0 0 31) (by (with_reducible repeat (first | refine kN ?_ _ | refine kD ?_ | refine kA ?_ _)); refine kR ?_ NB182_183.out _; (with_reducible repeat (first | refine kN ?_ _ | refine kD ?_ | refine kA ?_ _)); exact BK182.out) hb); have n1_ := mK (kB (g := gb183) (o := .cells #[.int .i64 ((Int.tdiv a0 16777216) % 4294967296), .int .i64 x184001_3, .int .i64 x184002_11, .int .i64 x184003_15, .int .i64 (wrap64 (t193))] 31 (0, 0)) (by (with_reducible repeat (first | refine kN ?_ _ | refine kD ?_ | refine kA ?_ _)); refine kP (cs := #[.int .i64 ((Int.tdiv a0 16777216) % 4294967296), .int .i64 x184001_3, .int .i64 x184002_11, .int .i64 x184003_15, .int .i64 0]) ?_ 4 _ rfl; (with_reducible repeat (first | refine kN ?_ _ | refine kD ?_ | refine kA ?_ _)); exact BK183.out) hb); have n2_ := mK (bP (by repeat (first | (with_reducible first | exact HB.out | apply bA | apply bN | apply bD | refine bS ?_ GE182.out | refine bS ?_ GE183.out) | exact HB.out)) hb); clear BK182; clear BK183; clear HB; have BK182 := n0_; have BK183 := n1_; have HB := n2_; clear n0_ n1_ n2_; (try clear hb); obtain ⟨hcz72_0, hcz72_1, hcz72_2, hcz72_3, hcz72_4, hfz72_0, hfz72_1, hfz72_2, hfz72_3, hfz72_4⟩ := cf5 BK183.out; obtain ⟨hcz73_0, hcz73_1, hcz73_2, hcz73_3, hcz73_4, hfz73_0, hfz73_1, hfz73_2, hfz73_3, hfz73_4⟩ := cf5 BK182.out))
                refine bodyPost_ret (results_ct rfl _ _ gb182 31 #[.int .i64 ((Int.tdiv a0 16777216) % 4294967296), .int .i64 x184001_3, .int .i64 x184002_11, .int .i64 x184003_15, .int .i64 (wrap64 (t193))] (0, 0) _ rfl (by (with_reducible repeat (first | refine kN ?_ _ | refine kD ?_ | refine kA ?_ _)); refine kP (cs := #[.int .i64 ((Int.tdiv a0 16777216) % 4294967296), .int .i64 x184001_3, .int .i64 x184002_11, .int .i64 x184003_15, .int .i64 0]) ?_ 4 _ rfl; (with_reducible repeat (first | refine kN ?_ _ | refine kD ?_ | refine kA ?_ _)); refine kP (cs := #[.int .i64 ((Int.tdiv a0 16777216) % 4294967296), .int .i64 x184001_3, .int .i64 x184002_11, .int .i64 0, .int .i64 0]) ?_ 3 _ rfl; (with_reducible repeat (first | refine kN ?_ _ | refine kD ?_ | refine kA ?_ _)); refine kP (cs := #[.int .i64 ((Int.tdiv a0 16777216) % 4294967296), .int .i64 x184001_3, .int .i64 0, .int .i64 0, .int .i64 0]) ?_ 2 _ rfl; (with_reducible repeat (first | refine kN ?_ _ | refine kD ?_ | refine kA ?_ _)); refine kP (cs := #[.int .i64 ((Int.tdiv a0 16777216) % 4294967296), .int .i64 0, .int .i64 0, .int .i64 0, .int .i64 0]) ?_ 1 _ rfl; (with_reducible repeat (first | refine kN ?_ _ | refine kD ?_ | refine kA ?_ _)); refine kP (cs := #[.int .i64 0, .int .i64 0, .int .i64 0, .int .i64 0, .int .i64 0]) ?_ 0 _ rfl; (with_reducible repeat (first | refine kN ?_ _ | refine kD ?_ | refine kA ?_ _)); exact BK182.out) Try.underlying31 rfl (by kernel_rfl)) rfl ?_
                exact ⟨by first | rfl | (simp [errW_none, errW_some] <;> rfl) | (simp [*, errW_none, errW_some] <;> rfl), by repeat (first | (with_reducible first | exact HB.out | apply bA | apply bN | apply bD | refine bS ?_ GE182.out | refine bS ?_ GE183.out) | exact HB.out)⟩
               ·
                rw [if_neg c67] at H
                have c67b0 : (t194 == a0) = false := bQ c67
                have c67b1 : (t194 != a0) = true := bne_iff_ne.mpr c67
                simp only [Option.some.injEq, Prod.mk.injEq] at H
                obtain ⟨rfl, rfl, rfl, rfl, rfl, rfl⟩ := H
                go_wp2_with (first | ((with_reducible refine gate_callee (f := 31) rfl ?_); refine goesL_ (some 60) rfl rfl Try.func31 (by kernel_rfl) rfl #[.int .u32 a0, .int .i64 24] rfl (by (try simp only [List.map_toArray, List.map_cons, List.map_nil]); first | done | rfl) ?_; (with_reducible refine (pascalineref01_Sext.calls kj42 a0 24 t193 _ A64.out).mono ?_); rintro e w74 ⟨rfl, hb⟩; refine ⟨_, rfl, ?_⟩; have n0_ := mK (kB (g := gb182) (o := o5 0 0 0 0 0 31) (by (with_reducible repeat (first | refine kN ?_ _ | refine kD ?_ | refine kA ?_ _)); exact BK182.out) hb); have n1_ := mK (kB (g := gb183) (o := .cells #[.int .i64 ((Int.tdiv a0 16777216) % 4294967296), .int .i64 x184001_3, .int .i64 x184002_11, .int .i64 x184003_15, .int .i64 0] 31 (0, 0)) (by (with_reducible repeat (first | refine kN ?_ _ | refine kD ?_ | refine kA ?_ _)); exact BK183.out) hb); have n2_ := mK (bP (by repeat (first | (with_reducible first | exact HB.out | apply bA | apply bN | apply bD | refine bS ?_ GE182.out | refine bS ?_ GE183.out) | exact HB.out)) hb); clear BK182; clear BK183; clear HB; have BK182 := n0_; have BK183 := n1_; have HB := n2_; clear n0_ n1_ n2_; (try clear hb); have hnb75 := NB183_182.out; have hnc75 := NB182_183.out; obtain ⟨hcz76_0, hcz76_1, hcz76_2, hcz76_3, hcz76_4, hfz76_0, hfz76_1, hfz76_2, hfz76_3, hfz76_4⟩ := cf5 BK183.out) | ((with_reducible refine gate_callee (f := 10) rfl ?_); refine goesL_ (some 65) rfl rfl Try.func10 (by kernel_rfl) rfl #[.agg #[.int .i64 ((Int.tdiv a0 16777216) % 4294967296), .int .i64 x184001_3, .int .i64 x184002_11, .int .i64 x184003_15, .int .i64 (wrap64 (t193))]] rfl (by (try simp only [List.map_toArray, List.map_cons, List.map_nil]); first | done | rfl) ?_; (with_reducible refine (pascalineref02_Encode.calls kj42 ((Int.tdiv a0 16777216) % 4294967296) x184001_3 x184002_11 x184003_15 (wrap64 (t193)) t194 t195 _ A65.out).mono ?_); rintro e w77 ⟨rfl, hb⟩; refine ⟨_, rfl, ?_⟩; have n0_ := mK (kB (g := gb182) (o := o5 0 0 0 0 0 31) (by (with_reducible repeat (first | refine kN ?_ _ | refine kD ?_ | refine kA ?_ _)); refine kR ?_ NB182_183.out _; (with_reducible repeat (first | refine kN ?_ _ | refine kD ?_ | refine kA ?_ _)); exact BK182.out) hb); have n1_ := mK (kB (g := gb183) (o := .cells #[.int .i64 ((Int.tdiv a0 16777216) % 4294967296), .int .i64 x184001_3, .int .i64 x184002_11, .int .i64 x184003_15, .int .i64 (wrap64 (t193))] 31 (0, 0)) (by (with_reducible repeat (first | refine kN ?_ _ | refine kD ?_ | refine kA ?_ _)); refine kP (cs := #[.int .i64 ((Int.tdiv a0 16777216) % 4294967296), .int .i64 x184001_3, .int .i64 x184002_11, .int .i64 x184003_15, .int .i64 0]) ?_ 4 _ rfl; (with_reducible repeat (first | refine kN ?_ _ | refine kD ?_ | refine kA ?_ _)); exact BK183.out) hb); have n2_ := mK (bP (by repeat (first | (with_reducible first | exact HB.out | apply bA | apply bN | apply bD | refine bS ?_ GE182.out | refine bS ?_ GE183.out) | exact HB.out)) hb); clear BK182; clear BK183; clear HB; have BK182 := n0_; have BK183 := n1_; have HB := n2_; clear n0_ n1_ n2_; (try clear hb); obtain ⟨hcz78_0, hcz78_1, hcz78_2, hcz78_3, hcz78_4, hfz78_0, hfz78_1, hfz78_2, hfz78_3, hfz78_4⟩ := cf5 BK182.out))
                refine bodyPost_ret (results_ct rfl _ _ gb182 31 #[.int .i64 0, .int .i64 0, .int .i64 0, .int .i64 0, .int .i64 0] (0, 0) _ rfl (by (with_reducible repeat (first | refine kN ?_ _ | refine kD ?_ | refine kA ?_ _)); refine kP (cs := #[.int .i64 0, .int .i64 0, .int .i64 0, .int .i64 0, .int .i64 0]) ?_ 4 _ rfl; (with_reducible repeat (first | refine kN ?_ _ | refine kD ?_ | refine kA ?_ _)); refine kP (cs := #[.int .i64 0, .int .i64 0, .int .i64 0, .int .i64 0, .int .i64 0]) ?_ 3 _ rfl; (with_reducible repeat (first | refine kN ?_ _ | refine kD ?_ | refine kA ?_ _)); refine kP (cs := #[.int .i64 0, .int .i64 0, .int .i64 0, .int .i64 0, .int .i64 0]) ?_ 2 _ rfl; (with_reducible repeat (first | refine kN ?_ _ | refine kD ?_ | refine kA ?_ _)); refine kP (cs := #[.int .i64 0, .int .i64 0, .int .i64 0, .int .i64 0, .int .i64 0]) ?_ 1 _ rfl; (with_reducible repeat (first | refine kN ?_ _ | refine kD ?_ | refine kA ?_ _)); refine kP (cs := #[.int .i64 0, .int .i64 0, .int .i64 0, .int .i64 0, .int .i64 0]) ?_ 0 _ rfl; (with_reducible repeat (first | refine kN ?_ _ | refine kD ?_ | refine kA ?_ _)); exact BK182.out) Try.underlying31 rfl (by kernel_rfl)) rfl ?_
                exact ⟨by first | rfl | (simp [errW_none, errW_some] <;> rfl) | (simp [*, errW_none, errW_some] <;> rfl), by repeat (first | (with_reducible first | exact HB.out | apply bA | apply bN | apply bD | refine bS ?_ GE182.out | refine bS ?_ GE183.out) | exact HB.out)⟩
              ·
               rw [if_neg c66] at H
               have c66b0 : (t195 == 0) = false := bQ c66
               have c66b1 : (t195 != 0) = true := bne_iff_ne.mpr c66
               simp only [Option.some.injEq, Prod.mk.injEq] at H
               obtain ⟨rfl, rfl, rfl, rfl, rfl, rfl⟩ := H
               go_wp2_with (first | ((with_reducible refine gate_callee (f := 31) rfl ?_); refine goesL_ (some 60) rfl rfl Try.func31 (by kernel_rfl) rfl #[.int .u32 a0, .int .i64 24] rfl (by (try simp only [List.map_toArray, List.map_cons, List.map_nil]); first | done | rfl) ?_; (with_reducible refine (pascalineref01_Sext.calls kj42 a0 24 t193 _ A64.out).mono ?_); rintro e w79 ⟨rfl, hb⟩; refine ⟨_, rfl, ?_⟩; have n0_ := mK (kB (g := gb182) (o := o5 0 0 0 0 0 31) (by (with_reducible repeat (first | refine kN ?_ _ | refine kD ?_ | refine kA ?_ _)); exact BK182.out) hb); have n1_ := mK (kB (g := gb183) (o := .cells #[.int .i64 ((Int.tdiv a0 16777216) % 4294967296), .int .i64 x184001_3, .int .i64 x184002_11, .int .i64 x184003_15, .int .i64 0] 31 (0, 0)) (by (with_reducible repeat (first | refine kN ?_ _ | refine kD ?_ | refine kA ?_ _)); exact BK183.out) hb); have n2_ := mK (bP (by repeat (first | (with_reducible first | exact HB.out | apply bA | apply bN | apply bD | refine bS ?_ GE182.out | refine bS ?_ GE183.out) | exact HB.out)) hb); clear BK182; clear BK183; clear HB; have BK182 := n0_; have BK183 := n1_; have HB := n2_; clear n0_ n1_ n2_; (try clear hb); have hnb80 := NB183_182.out; have hnc80 := NB182_183.out; obtain ⟨hcz81_0, hcz81_1, hcz81_2, hcz81_3, hcz81_4, hfz81_0, hfz81_1, hfz81_2, hfz81_3, hfz81_4⟩ := cf5 BK183.out) | ((with_reducible refine gate_callee (f := 10) rfl ?_); refine goesL_ (some 65) rfl rfl Try.func10 (by kernel_rfl) rfl #[.agg #[.int .i64 ((Int.tdiv a0 16777216) % 4294967296), .int .i64 x184001_3, .int .i64 x184002_11, .int .i64 x184003_15, .int .i64 (wrap64 (t193))]] rfl (by (try simp only [List.map_toArray, List.map_cons, List.map_nil]); first | done | rfl) ?_; (with_reducible refine (pascalineref02_Encode.calls kj42 ((Int.tdiv a0 16777216) % 4294967296) x184001_3 x184002_11 x184003_15 (wrap64 (t193)) t194 t195 _ A65.out).mono ?_); rintro e w82 ⟨rfl, hb⟩; refine ⟨_, rfl, ?_⟩; have n0_ := mK (kB (g := gb182) (o := o5 0 0 0 0 0 31) (by (with_reducible repeat (first | refine kN ?_ _ | refine kD ?_ | refine kA ?_ _)); refine kR ?_ NB182_183.out _; (with_reducible repeat (first | refine kN ?_ _ | refine kD ?_ | refine kA ?_ _)); exact BK182.out) hb); have n1_ := mK (kB (g := gb183) (o := .cells #[.int .i64 ((Int.tdiv a0 16777216) % 4294967296), .int .i64 x184001_3, .int .i64 x184002_11, .int .i64 x184003_15, .int .i64 (wrap64 (t193))] 31 (0, 0)) (by (with_reducible repeat (first | refine kN ?_ _ | refine kD ?_ | refine kA ?_ _)); refine kP (cs := #[.int .i64 ((Int.tdiv a0 16777216) % 4294967296), .int .i64 x184001_3, .int .i64 x184002_11, .int .i64 x184003_15, .int .i64 0]) ?_ 4 _ rfl; (with_reducible repeat (first | refine kN ?_ _ | refine kD ?_ | refine kA ?_ _)); exact BK183.out) hb); have n2_ := mK (bP (by repeat (first | (with_reducible first | exact HB.out | apply bA | apply bN | apply bD | refine bS ?_ GE182.out | refine bS ?_ GE183.out) | exact HB.out)) hb); clear BK182; clear BK183; clear HB; have BK182 := n0_; have BK183 := n1_; have HB := n2_; clear n0_ n1_ n2_; (try clear hb); obtain ⟨hcz83_0, hcz83_1, hcz83_2, hcz83_3, hcz83_4, hfz83_0, hfz83_1, hfz83_2, hfz83_3, hfz83_4⟩ := cf5 BK182.out))
               refine bodyPost_ret (results_ct rfl _ _ gb182 31 #[.int .i64 0, .int .i64 0, .int .i64 0, .int .i64 0, .int .i64 0] (0, 0) _ rfl (by (with_reducible repeat (first | refine kN ?_ _ | refine kD ?_ | refine kA ?_ _)); refine kP (cs := #[.int .i64 0, .int .i64 0, .int .i64 0, .int .i64 0, .int .i64 0]) ?_ 4 _ rfl; (with_reducible repeat (first | refine kN ?_ _ | refine kD ?_ | refine kA ?_ _)); refine kP (cs := #[.int .i64 0, .int .i64 0, .int .i64 0, .int .i64 0, .int .i64 0]) ?_ 3 _ rfl; (with_reducible repeat (first | refine kN ?_ _ | refine kD ?_ | refine kA ?_ _)); refine kP (cs := #[.int .i64 0, .int .i64 0, .int .i64 0, .int .i64 0, .int .i64 0]) ?_ 2 _ rfl; (with_reducible repeat (first | refine kN ?_ _ | refine kD ?_ | refine kA ?_ _)); refine kP (cs := #[.int .i64 0, .int .i64 0, .int .i64 0, .int .i64 0, .int .i64 0]) ?_ 1 _ rfl; (with_reducible repeat (first | refine kN ?_ _ | refine kD ?_ | refine kA ?_ _)); refine kP (cs := #[.int .i64 0, .int .i64 0, .int .i64 0, .int .i64 0, .int .i64 0]) ?_ 0 _ rfl; (with_reducible repeat (first | refine kN ?_ _ | refine kD ?_ | refine kA ?_ _)); exact BK182.out) Try.underlying31 rfl (by kernel_rfl)) rfl ?_
               exact ⟨by first | rfl | (simp [errW_none, errW_some] <;> rfl) | (simp [*, errW_none, errW_some] <;> rfl), by repeat (first | (with_reducible first | exact HB.out | apply bA | apply bN | apply bD | refine bS ?_ GE182.out | refine bS ?_ GE183.out) | exact HB.out)⟩
             ·
              rw [if_neg c63] at H
              have c63b0 : (t184 == 7) = false := bQ c63
              have c63b1 : (t184 != 7) = true := bne_iff_ne.mpr c63
              replace H := oB H
              obtain ⟨⟨t196, t197⟩, A840, H⟩ := H
              replace H : (if t197 = 0 then (if t196 = a0 then (some (((Int.tdiv a0 16777216) % 4294967296), x184001_3, x184002_11, x184003_15, 0, 0)) else (some (0, 0, 0, 0, 0, 21))) else (some (0, 0, 0, 0, 0, 21))) = some (r1, r2, r3, r4, r5, r6) := H
              have A84 := mK A840
              clear A840
              by_cases c85 : t197 = 0
              ·
               rw [if_pos c85] at H
               have c85b0 : (t197 == 0) = true := beq_iff_eq.mpr c85
               have c85b1 : (t197 != 0) = false := bR c85
               clear c85
               by_cases c86 : t196 = a0
               ·
                rw [if_pos c86] at H
                have c86b0 : (t196 == a0) = true := beq_iff_eq.mpr c86
                have c86b1 : (t196 != a0) = false := bR c86
                clear c86
                simp only [Option.some.injEq, Prod.mk.injEq] at H
                obtain ⟨rfl, rfl, rfl, rfl, rfl, rfl⟩ := H
                have hnb87 := NB183_182.out
                have hnc87 := NB182_183.out
                obtain ⟨hcz88_0, hcz88_1, hcz88_2, hcz88_3, hcz88_4, hfz88_0, hfz88_1, hfz88_2, hfz88_3, hfz88_4⟩ := cf5 BK183.out
                go_wp2_with (first | ((with_reducible refine gate_callee (f := 10) rfl ?_); refine goesL_ (some 65) rfl rfl Try.func10 (by kernel_rfl) rfl #[.agg #[.int .i64 ((Int.tdiv a0 16777216) % 4294967296), .int .i64 x184001_3, .int .i64 x184002_11, .int .i64 x184003_15, .int .i64 0]] rfl (by (try simp only [List.map_toArray, List.map_cons, List.map_nil]); first | done | rfl) ?_; (with_reducible refine (pascalineref02_Encode.calls kj42 ((Int.tdiv a0 16777216) % 4294967296) x184001_3 x184002_11 x184003_15 0 t196 t197 _ A84.out).mono ?_); rintro e w89 ⟨rfl, hb⟩; refine ⟨_, rfl, ?_⟩; have n0_ := mK (kB (g := gb182) (o := o5 0 0 0 0 0 31) (by (with_reducible repeat (first | refine kN ?_ _ | refine kD ?_ | refine kA ?_ _)); exact BK182.out) hb); have n1_ := mK (kB (g := gb183) (o := .cells #[.int .i64 ((Int.tdiv a0 16777216) % 4294967296), .int .i64 x184001_3, .int .i64 x184002_11, .int .i64 x184003_15, .int .i64 0] 31 (0, 0)) (by (with_reducible repeat (first | refine kN ?_ _ | refine kD ?_ | refine kA ?_ _)); exact BK183.out) hb); have n2_ := mK (bP (by repeat (first | (with_reducible first | exact HB.out | apply bA | apply bN | apply bD | refine bS ?_ GE182.out | refine bS ?_ GE183.out) | exact HB.out)) hb); clear BK182; clear BK183; clear HB; have BK182 := n0_; have BK183 := n1_; have HB := n2_; clear n0_ n1_ n2_; (try clear hb); obtain ⟨hcz90_0, hcz90_1, hcz90_2, hcz90_3, hcz90_4, hfz90_0, hfz90_1, hfz90_2, hfz90_3, hfz90_4⟩ := cf5 BK183.out; obtain ⟨hcz91_0, hcz91_1, hcz91_2, hcz91_3, hcz91_4, hfz91_0, hfz91_1, hfz91_2, hfz91_3, hfz91_4⟩ := cf5 BK182.out))
                refine bodyPost_ret (results_ct rfl _ _ gb182 31 #[.int .i64 ((Int.tdiv a0 16777216) % 4294967296), .int .i64 x184001_3, .int .i64 x184002_11, .int .i64 x184003_15, .int .i64 0] (0, 0) _ rfl (by (with_reducible repeat (first | refine kN ?_ _ | refine kD ?_ | refine kA ?_ _)); refine kP (cs := #[.int .i64 ((Int.tdiv a0 16777216) % 4294967296), .int .i64 x184001_3, .int .i64 x184002_11, .int .i64 x184003_15, .int .i64 0]) ?_ 4 _ rfl; (with_reducible repeat (first | refine kN ?_ _ | refine kD ?_ | refine kA ?_ _)); refine kP (cs := #[.int .i64 ((Int.tdiv a0 16777216) % 4294967296), .int .i64 x184001_3, .int .i64 x184002_11, .int .i64 0, .int .i64 0]) ?_ 3 _ rfl; (with_reducible repeat (first | refine kN ?_ _ | refine kD ?_ | refine kA ?_ _)); refine kP (cs := #[.int .i64 ((Int.tdiv a0 16777216) % 4294967296), .int .i64 x184001_3, .int .i64 0, .int .i64 0, .int .i64 0]) ?_ 2 _ rfl; (with_reducible repeat (first | refine kN ?_ _ | refine kD ?_ | refine kA ?_ _)); refine kP (cs := #[.int .i64 ((Int.tdiv a0 16777216) % 4294967296), .int .i64 0, .int .i64 0, .int .i64 0, .int .i64 0]) ?_ 1 _ rfl; (with_reducible repeat (first | refine kN ?_ _ | refine kD ?_ | refine kA ?_ _)); refine kP (cs := #[.int .i64 0, .int .i64 0, .int .i64 0, .int .i64 0, .int .i64 0]) ?_ 0 _ rfl; (with_reducible repeat (first | refine kN ?_ _ | refine kD ?_ | refine kA ?_ _)); exact BK182.out) Try.underlying31 rfl (by kernel_rfl)) rfl ?_
                exact ⟨by first | rfl | (simp [errW_none, errW_some] <;> rfl) | (simp [*, errW_none, errW_some] <;> rfl), by repeat (first | (with_reducible first | exact HB.out | apply bA | apply bN | apply bD | refine bS ?_ GE182.out | refine bS ?_ GE183.out) | exact HB.out)⟩
               ·
                rw [if_neg c86] at H
                have c86b0 : (t196 == a0) = false := bQ c86
                have c86b1 : (t196 != a0) = true := bne_iff_ne.mpr c86
                simp only [Option.some.injEq, Prod.mk.injEq] at H
                obtain ⟨rfl, rfl, rfl, rfl, rfl, rfl⟩ := H
                have hnb92 := NB183_182.out
                have hnc92 := NB182_183.out
                obtain ⟨hcz93_0, hcz93_1, hcz93_2, hcz93_3, hcz93_4, hfz93_0, hfz93_1, hfz93_2, hfz93_3, hfz93_4⟩ := cf5 BK183.out
                go_wp2_with (first | ((with_reducible refine gate_callee (f := 10) rfl ?_); refine goesL_ (some 65) rfl rfl Try.func10 (by kernel_rfl) rfl #[.agg #[.int .i64 ((Int.tdiv a0 16777216) % 4294967296), .int .i64 x184001_3, .int .i64 x184002_11, .int .i64 x184003_15, .int .i64 0]] rfl (by (try simp only [List.map_toArray, List.map_cons, List.map_nil]); first | done | rfl) ?_; (with_reducible refine (pascalineref02_Encode.calls kj42 ((Int.tdiv a0 16777216) % 4294967296) x184001_3 x184002_11 x184003_15 0 t196 t197 _ A84.out).mono ?_); rintro e w94 ⟨rfl, hb⟩; refine ⟨_, rfl, ?_⟩; have n0_ := mK (kB (g := gb182) (o := o5 0 0 0 0 0 31) (by (with_reducible repeat (first | refine kN ?_ _ | refine kD ?_ | refine kA ?_ _)); exact BK182.out) hb); have n1_ := mK (kB (g := gb183) (o := .cells #[.int .i64 ((Int.tdiv a0 16777216) % 4294967296), .int .i64 x184001_3, .int .i64 x184002_11, .int .i64 x184003_15, .int .i64 0] 31 (0, 0)) (by (with_reducible repeat (first | refine kN ?_ _ | refine kD ?_ | refine kA ?_ _)); exact BK183.out) hb); have n2_ := mK (bP (by repeat (first | (with_reducible first | exact HB.out | apply bA | apply bN | apply bD | refine bS ?_ GE182.out | refine bS ?_ GE183.out) | exact HB.out)) hb); clear BK182; clear BK183; clear HB; have BK182 := n0_; have BK183 := n1_; have HB := n2_; clear n0_ n1_ n2_; (try clear hb); obtain ⟨hcz95_0, hcz95_1, hcz95_2, hcz95_3, hcz95_4, hfz95_0, hfz95_1, hfz95_2, hfz95_3, hfz95_4⟩ := cf5 BK182.out))
                refine bodyPost_ret (results_ct rfl _ _ gb182 31 #[.int .i64 0, .int .i64 0, .int .i64 0, .int .i64 0, .int .i64 0] (0, 0) _ rfl (by (with_reducible repeat (first | refine kN ?_ _ | refine kD ?_ | refine kA ?_ _)); refine kP (cs := #[.int .i64 0, .int .i64 0, .int .i64 0, .int .i64 0, .int .i64 0]) ?_ 4 _ rfl; (with_reducible repeat (first | refine kN ?_ _ | refine kD ?_ | refine kA ?_ _)); refine kP (cs := #[.int .i64 0, .int .i64 0, .int .i64 0, .int .i64 0, .int .i64 0]) ?_ 3 _ rfl; (with_reducible repeat (first | refine kN ?_ _ | refine kD ?_ | refine kA ?_ _)); refine kP (cs := #[.int .i64 0, .int .i64 0, .int .i64 0, .int .i64 0, .int .i64 0]) ?_ 2 _ rfl; (with_reducible repeat (first | refine kN ?_ _ | refine kD ?_ | refine kA ?_ _)); refine kP (cs := #[.int .i64 0, .int .i64 0, .int .i64 0, .int .i64 0, .int .i64 0]) ?_ 1 _ rfl; (with_reducible repeat (first | refine kN ?_ _ | refine kD ?_ | refine kA ?_ _)); refine kP (cs := #[.int .i64 0, .int .i64 0, .int .i64 0, .int .i64 0, .int .i64 0]) ?_ 0 _ rfl; (with_reducible repeat (first | refine kN ?_ _ | refine kD ?_ | refine kA ?_ _)); exact BK182.out) Try.underlying31 rfl (by kernel_rfl)) rfl ?_
                exact ⟨by first | rfl | (simp [errW_none, errW_some] <;> rfl) | (simp [*, errW_none, errW_some] <;> rfl), by repeat (first | (with_reducible first | exact HB.out | apply bA | apply bN | apply bD | refine bS ?_ GE182.out | refine bS ?_ GE183.out) | exact HB.out)⟩
              ·
               rw [if_neg c85] at H
               have c85b0 : (t197 == 0) = false := bQ c85
               have c85b1 : (t197 != 0) = true := bne_iff_ne.mpr c85
               simp only [Option.some.injEq, Prod.mk.injEq] at H
               obtain ⟨rfl, rfl, rfl, rfl, rfl, rfl⟩ := H
               have hnb96 := NB183_182.out
               have hnc96 := NB182_183.out
               obtain ⟨hcz97_0, hcz97_1, hcz97_2, hcz97_3, hcz97_4, hfz97_0, hfz97_1, hfz97_2, hfz97_3, hfz97_4⟩ := cf5 BK183.out
               go_wp2_with (first | ((with_reducible refine gate_callee (f := 10) rfl ?_); refine goesL_ (some 65) rfl rfl Try.func10 (by kernel_rfl) rfl #[.agg #[.int .i64 ((Int.tdiv a0 16777216) % 4294967296), .int .i64 x184001_3, .int .i64 x184002_11, .int .i64 x184003_15, .int .i64 0]] rfl (by (try simp only [List.map_toArray, List.map_cons, List.map_nil]); first | done | rfl) ?_; (with_reducible refine (pascalineref02_Encode.calls kj42 ((Int.tdiv a0 16777216) % 4294967296) x184001_3 x184002_11 x184003_15 0 t196 t197 _ A84.out).mono ?_); rintro e w98 ⟨rfl, hb⟩; refine ⟨_, rfl, ?_⟩; have n0_ := mK (kB (g := gb182) (o := o5 0 0 0 0 0 31) (by (with_reducible repeat (first | refine kN ?_ _ | refine kD ?_ | refine kA ?_ _)); exact BK182.out) hb); have n1_ := mK (kB (g := gb183) (o := .cells #[.int .i64 ((Int.tdiv a0 16777216) % 4294967296), .int .i64 x184001_3, .int .i64 x184002_11, .int .i64 x184003_15, .int .i64 0] 31 (0, 0)) (by (with_reducible repeat (first | refine kN ?_ _ | refine kD ?_ | refine kA ?_ _)); exact BK183.out) hb); have n2_ := mK (bP (by repeat (first | (with_reducible first | exact HB.out | apply bA | apply bN | apply bD | refine bS ?_ GE182.out | refine bS ?_ GE183.out) | exact HB.out)) hb); clear BK182; clear BK183; clear HB; have BK182 := n0_; have BK183 := n1_; have HB := n2_; clear n0_ n1_ n2_; (try clear hb); obtain ⟨hcz99_0, hcz99_1, hcz99_2, hcz99_3, hcz99_4, hfz99_0, hfz99_1, hfz99_2, hfz99_3, hfz99_4⟩ := cf5 BK182.out))
               refine bodyPost_ret (results_ct rfl _ _ gb182 31 #[.int .i64 0, .int .i64 0, .int .i64 0, .int .i64 0, .int .i64 0] (0, 0) _ rfl (by (with_reducible repeat (first | refine kN ?_ _ | refine kD ?_ | refine kA ?_ _)); refine kP (cs := #[.int .i64 0, .int .i64 0, .int .i64 0, .int .i64 0, .int .i64 0]) ?_ 4 _ rfl; (with_reducible repeat (first | refine kN ?_ _ | refine kD ?_ | refine kA ?_ _)); refine kP (cs := #[.int .i64 0, .int .i64 0, .int .i64 0, .int .i64 0, .int .i64 0]) ?_ 3 _ rfl; (with_reducible repeat (first | refine kN ?_ _ | refine kD ?_ | refine kA ?_ _)); refine kP (cs := #[.int .i64 0, .int .i64 0, .int .i64 0, .int .i64 0, .int .i64 0]) ?_ 2 _ rfl; (with_reducible repeat (first | refine kN ?_ _ | refine kD ?_ | refine kA ?_ _)); refine kP (cs := #[.int .i64 0, .int .i64 0, .int .i64 0, .int .i64 0, .int .i64 0]) ?_ 1 _ rfl; (with_reducible repeat (first | refine kN ?_ _ | refine kD ?_ | refine kA ?_ _)); refine kP (cs := #[.int .i64 0, .int .i64 0, .int .i64 0, .int .i64 0, .int .i64 0]) ?_ 0 _ rfl; (with_reducible repeat (first | refine kN ?_ _ | refine kD ?_ | refine kA ?_ _)); exact BK182.out) Try.underlying31 rfl (by kernel_rfl)) rfl ?_
               exact ⟨by first | rfl | (simp [errW_none, errW_some] <;> rfl) | (simp [*, errW_none, errW_some] <;> rfl), by repeat (first | (with_reducible first | exact HB.out | apply bA | apply bN | apply bD | refine bS ?_ GE182.out | refine bS ?_ GE183.out) | exact HB.out)⟩

end Go.Proofs.Ytmajngcgejkghaa.P

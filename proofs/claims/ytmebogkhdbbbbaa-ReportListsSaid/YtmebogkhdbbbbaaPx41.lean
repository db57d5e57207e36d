/- Printed parts. -/
import Derived.Test.YtmebogkhdbbbbaaPx0
import Derived.Test.YtmebogkhdbbbbaaCCf
import Derived.Test.YtmebogkhdbbbbaaPx34
namespace Go.Proofs.Ytmebogkhdbbbbaa.P
open Go.RowKit Go.Proofs.YtmebogkhdbbbbaaW.PrintWords Go.Proofs.YtmebogkhdbbbbaaW.PrintLast Go.Proofs.YtmebogkhdbbbbaaW.PrintMore
attribute [local go_sem] max2_int min2_int max_two min_two max_three min_three max_four min_four   -- for this text's walks alone
set_option linter.unusedVariables false
set_option linter.unusedSimpArgs false

/-! ### report_Listing: function 16 -/
def report_Listing.l0 : Nat → ByteArray → List (S49) → Int → Int → Int → Int → Int → Int → Int → List Int → List Int → Int → Int → Int → Int → List (S49) → List (S46) → List Int → List Int → Option (ByteArray × Int)
 | 0, _, _, _, _, _, _, _, _, _, _, _, _, _, _, _, _, _, _, _ => none
 | k + 1, x1, x10, x11, x12, x255000, x255001, x255002, x255003, x255004, x255005, x255006, x255007, x255008, x255009, x255010, x255011, x255012, x255013, x255014 => if x12 < x11 then (if 0 ≤ x12 then (if x12 < (x10.length : Int) then (if ((rd_T49 x10 x12).f0).toList = x1.toList then (if ((rd_T49 x10 x12).f1) ≥ 0 then (if ((rd_T49 x10 x12).f2) ≥ 0 then (if ((rd_T49 x10 x12).f1) ≤ (x255005.length : Int) then (if ((rd_T49 x10 x12).f2) ≤ (wrap64 ((x255005.length : Int) - ((rd_T49 x10 x12).f1))) then (if 0 ≤ ((rd_T49 x10 x12).f1) then (if ((rd_T49 x10 x12).f1) ≤ (wrap64 (((rd_T49 x10 x12).f1) + ((rd_T49 x10 x12).f2))) then (if (wrap64 (((rd_T49 x10 x12).f1) + ((rd_T49 x10 x12).f2))) ≤ (x255005.length : Int) then ((listing_Print.f k ((wrap64 (4 * ((rd_T49 x10 x12).f1))) % 4294967296) ((x255005.take ((wrap64 (((rd_T49 x10 x12).f1) + ((rd_T49 x10 x12).f2))) : Int).toNat).drop (((rd_T49 x10 x12).f1) : Int).toNat)).bind fun t258 => (some (t258, 0))) else (none)) else (none)) else (none)) else (report_Listing.l0 k x1 x10 x11 (wrap64 (x12 + 1)) x255000 x255001 x255002 x255003 x255004 x255005 x255006 x255007 x255008 x255009 x255010 x255011 x255012 x255013 x255014)) else (report_Listing.l0 k x1 x10 x11 (wrap64 (x12 + 1)) x255000 x255001 x255002 x255003 x255004 x255005 x255006 x255007 x255008 x255009 x255010 x255011 x255012 x255013 x255014)) else (report_Listing.l0 k x1 x10 x11 (wrap64 (x12 + 1)) x255000 x255001 x255002 x255003 x255004 x255005 x255006 x255007 x255008 x255009 x255010 x255011 x255012 x255013 x255014)) else (report_Listing.l0 k x1 x10 x11 (wrap64 (x12 + 1)) x255000 x255001 x255002 x255003 x255004 x255005 x255006 x255007 x255008 x255009 x255010 x255011 x255012 x255013 x255014)) else (report_Listing.l0 k x1 x10 x11 (wrap64 (x12 + 1)) x255000 x255001 x255002 x255003 x255004 x255005 x255006 x255007 x255008 x255009 x255010 x255011 x255012 x255013 x255014)) else (none)) else (none)) else (some ((⟨#[]⟩ : ByteArray), 144))
def report_Listing.f (k : Nat) (a0_0 : Int) (a0_1 : Int) (a0_2 : Int) (a0_3 : Int) (a0_4 : Int) (l0_5 : List Int) (l0_6 : List Int) (a0_7 : Int) (a0_8 : Int) (a0_9 : Int) (a0_10 : Int) (l0_11 : List (S49)) (l0_12 : List (S46)) (l0_13 : List Int) (l0_14 : List Int) (a1 : ByteArray) : Option (ByteArray × Int) := report_Listing.l0 k a1 l0_11 (l0_11.length : Int) 0 a0_0 a0_1 a0_2 a0_3 a0_4 l0_5 l0_6 a0_7 a0_8 a0_9 a0_10 l0_11 l0_12 l0_13 l0_14
theorem report_Listing.mono_l : ∀ k, (∀ y0 y1 y2 y3 y4 y5 y6 y7 y8 y9 y10 y11 y12 y13 y14 y15 y16 y17 y18, LeO (report_Listing.l0 k y0 y1 y2 y3 y4 y5 y6 y7 y8 y9 y10 y11 y12 y13 y14 y15 y16 y17 y18) (report_Listing.l0 (k + 1) y0 y1 y2 y3 y4 y5 y6 y7 y8 y9 y10 y11 y12 y13 y14 y15 y16 y17 y18))
 | 0 => fun _ _ _ _ _ _ _ _ _ _ _ _ _ _ _ _ _ _ _ r h => by simp [report_Listing.l0] at h
 | k + 1 => by
  have ih0 := report_Listing.mono_l k
  ·
   intro y0 y1 y2 y3 y4 y5 y6 y7 y8 y9 y10 y11 y12 y13 y14 y15 y16 y17 y18
   unfold report_Listing.l0
   repeat' first
   | (with_reducible exact ih0 _ _ _ _ _ _ _ _ _ _ _ _ _ _ _ _ _ _ _)
   | (with_reducible exact listing_Print.mono _ _ _)
   | (with_reducible exact LeO.refl _)
   | (with_reducible exact LeO.none _)
   | (with_reducible refine LeO.ite ?_ ?_)
   | (with_reducible refine LeO.bind ?_ (fun _ => ?_))
   | exact LeO.none _
   | refine LeO.ite ?_ ?_
   | refine LeO.bind ?_ (fun _ => ?_)
theorem report_Listing.mono : ∀ a0 a1 a2 a3 a4 a5 a6 a7 a8 a9 a10 a11 a12 a13 a14 a15 k, LeO (report_Listing.f k a0 a1 a2 a3 a4 a5 a6 a7 a8 a9 a10 a11 a12 a13 a14 a15) (report_Listing.f (k + 1) a0 a1 a2 a3 a4 a5 a6 a7 a8 a9 a10 a11 a12 a13 a14 a15) := by
 intro a0 a1 a2 a3 a4 a5 a6 a7 a8 a9 a10 a11 a12 a13 a14 a15 k
 have ih0 := report_Listing.mono_l k
 unfold report_Listing.f
 repeat' first
  | (with_reducible exact ih0 _ _ _ _ _ _ _ _ _ _ _ _ _ _ _ _ _ _ _)
  | (with_reducible exact listing_Print.mono _ _ _)
  | (with_reducible exact LeO.refl _)
  | (with_reducible exact LeO.none _)
  | (with_reducible refine LeO.ite ?_ ?_)
  | (with_reducible refine LeO.bind ?_ (fun _ => ?_))
  | exact LeO.none _
  | refine LeO.ite ?_ ?_
  | refine LeO.bind ?_ (fun _ => ?_)
def report_Listing.T5 : Bool × List (List Nat × List Nat) := (true, [([], []), ([0], [0]), ([1], [1]), ([2], [2]), ([], []), ([4], [4]), ([5], [5]), ([], []), ([7], [7]), ([], []), ([9], [9]), ([], []), ([11], [11]), ([10, 12], [10, 12]), ([6, 8, 13], [6, 8, 13]), ([3, 14], [3, 14]), ([15, 15, 0, 1, 2, 3, 4, 5, 6, 7, 8, 9, 10, 11, 12, 13, 14, 15], [15]), ([16, 0, 1, 2, 3, 4, 5, 6, 7, 8, 9, 10, 11, 12, 13, 14, 15, 16], [])])
def report_Listing.B5 : List Nat := [0, 1, 3, 7, 0, 16, 48, 0, 128, 0, 512, 0, 2048, 7680, 16368, 32767, 65535, 131071]
theorem report_Listing.tab5 : rtab .any (opsOf Try.f16 5) = report_Listing.T5 := by kernel_rfl
theorem report_Listing.bits5 : waitsOk report_Listing.T5.2 report_Listing.B5 = true := by kernel_rfl
set_option maxHeartbeats 8000000 in
set_option maxRecDepth 100000 in
theorem report_Listing.calls (k : Nat) (a0_0 : Int) (a0_1 : Int) (a0_2 : Int) (a0_3 : Int) (a0_4 : Int) (A0_5 : Option Addr) (c0_5 : Nat) (l0_5 : List Int) (A0_6 : Option Addr) (c0_6 : Nat) (l0_6 : List Int) (a0_7 : Int) (a0_8 : Int) (a0_9 : Int) (a0_10 : Int) (A0_11 : Option Addr) (c0_11 : Nat) (l0_11 : List (S49)) (A0_12 : Option Addr) (c0_12 : Nat) (l0_12 : List (S46)) (A0_13 : Option Addr) (c0_13 : Nat) (l0_13 : List Int) (A0_14 : Option Addr) (c0_14 : Nat) (l0_14 : List Int) (a1 : ByteArray) (r1 : ByteArray) (r2 : Int) (w : World) (hr0_5 : Kd.C (Kd.int .u32) w A0_5 l0_5.length l0_5) (hc0_5 : l0_5.length ≤ c0_5) (hr0_6 : Kd.C (Kd.int .u32) w A0_6 l0_6.length l0_6) (hc0_6 : l0_6.length ≤ c0_6) (hr0_11 : Kd.C k49 w A0_11 l0_11.length l0_11) (hc0_11 : l0_11.length ≤ c0_11) (hr0_12 : Kd.C k46 w A0_12 l0_12.length l0_12) (hc0_12 : l0_12.length ≤ c0_12) (hr0_13 : Kd.C (Kd.int .i64) w A0_13 l0_13.length l0_13) (hc0_13 : l0_13.length ≤ c0_13) (hr0_14 : Kd.C (Kd.int .i64) w A0_14 l0_14.length l0_14) (hc0_14 : l0_14.length ≤ c0_14) (h : report_Listing.f k a0_0 a0_1 a0_2 a0_3 a0_4 l0_5 l0_6 a0_7 a0_8 a0_9 a0_10 l0_11 l0_12 l0_13 l0_14 a1 = some (r1, r2)) :
 Calls Try.prog 16 #[.agg #[.int .u32 a0_0, .int .u32 a0_1, .int .u32 a0_2, .int .u32 a0_3, .int .u32 a0_4, .slice A0_5 l0_5.length c0_5, .slice A0_6 l0_6.length c0_6, .int .u32 a0_7, .int .u32 a0_8, .int .u32 a0_9, .int .u32 a0_10, .slice A0_11 l0_11.length c0_11, .slice A0_12 l0_12.length c0_12, .slice A0_13 l0_13.length c0_13, .slice A0_14 l0_14.length c0_14], .string a1] w fun e w' => e = .returned (.tuple #[.string r1, .int .i64 r2]) ∧ Below w.heap.size w w' := by
 have hu51 := Try.underlying51
 have hu49 := Try.underlying49
 have HR0_5 := mK hr0_5
 have HC0_5 := mK hc0_5
 clear hr0_5 hc0_5
 have HR0_6 := mK hr0_6
 have HC0_6 := mK hc0_6
 clear hr0_6 hc0_6
 have HR0_11 := mK hr0_11
 have HC0_11 := mK hc0_11
 clear hr0_11 hc0_11
 have HR0_12 := mK hr0_12
 have HC0_12 := mK hc0_12
 clear hr0_12 hc0_12
 have HR0_13 := mK hr0_13
 have HC0_13 := mK hc0_13
 clear hr0_13 hc0_13
 have HR0_14 := mK hr0_14
 have HC0_14 := mK hc0_14
 clear hr0_14 hc0_14
 have HB := mK (Below.refl w.heap.size w)
 have H : (report_Listing.l0 k a1 l0_11 (l0_11.length : Int) 0 a0_0 a0_1 a0_2 a0_3 a0_4 l0_5 l0_6 a0_7 a0_8 a0_9 a0_10 l0_11 l0_12 l0_13 l0_14) = some (r1, r2) := h
 clear h
 have H' := mK H
 clear H
 go_enter Try.func16, Try.ntmps16
 go_wp2_with (first | ((with_reducible refine gate_dst (N := 2) rfl ?_); (try (refine gate_guard (by rfl) ?_; dsimp only)); refine box_event ?hg (N := 2) ?hd (cs := #[.int .u32 a0_0, .int .u32 a0_1, .int .u32 a0_2, .int .u32 a0_3, .int .u32 a0_4, .slice A0_5 l0_5.length c0_5, .slice A0_6 l0_6.length c0_6, .int .u32 a0_7, .int .u32 a0_8, .int .u32 a0_9, .int .u32 a0_10, .slice A0_11 l0_11.length c0_11, .slice A0_12 l0_12.length c0_12, .slice A0_13 l0_13.length c0_13, .slice A0_14 l0_14.length c0_14]) (t := 51) ?hr ?_; (case hd => rfl); (case hg => rfl); (case hr => first | (go_simp; done) | (go_simp; rfl)); intro gb254 hg w3 hbox hb; have n0_ := mK (bP (by repeat (first | (with_reducible first | exact HB.out | apply bA | apply bN | apply bD) | exact HB.out)) hb); have n1_ := mK (hbox); have n2_ := mK ((by rw [hg]; exact (bZ (by repeat (first | (with_reducible first | exact HB.out | apply bA | apply bN | apply bD) | exact HB.out))) : w.heap.size ≤ gb254)); have n3_ := mK ((by rw [hg]; exact (bZ (by repeat (first | (with_reducible first | exact HB.out | apply bA | apply bN | apply bD) | exact HB.out))) : w.heap.size ≤ gb254)); clear HB; have HB := n0_; have BK254 := n1_; have GW254 := n2_; have GE254 := n3_; clear n0_ n1_ n2_ n3_; clear hb hbox hg; have hcz4_0 : w3.cell? ⟨gb254, 0, none⟩ = some (.int .u32 a0_0) := (kC BK254.out 0).trans rfl; have hcz4_1 : w3.cell? ⟨gb254, 1, none⟩ = some (.int .u32 a0_1) := (kC BK254.out 1).trans rfl; have hcz4_2 : w3.cell? ⟨gb254, 2, none⟩ = some (.int .u32 a0_2) := (kC BK254.out 2).trans rfl; have hcz4_3 : w3.cell? ⟨gb254, 3, none⟩ = some (.int .u32 a0_3) := (kC BK254.out 3).trans rfl; have hcz4_4 : w3.cell? ⟨gb254, 4, none⟩ = some (.int .u32 a0_4) := (kC BK254.out 4).trans rfl; have hcz4_5 : w3.cell? ⟨gb254, 5, none⟩ = some (.slice A0_5 l0_5.length c0_5) := (kC BK254.out 5).trans rfl; have hcz4_6 : w3.cell? ⟨gb254, 6, none⟩ = some (.slice A0_6 l0_6.length c0_6) := (kC BK254.out 6).trans rfl; have hcz4_7 : w3.cell? ⟨gb254, 7, none⟩ = some (.int .u32 a0_7) := (kC BK254.out 7).trans rfl; have hcz4_8 : w3.cell? ⟨gb254, 8, none⟩ = some (.int .u32 a0_8) := (kC BK254.out 8).trans rfl; have hcz4_9 : w3.cell? ⟨gb254, 9, none⟩ = some (.int .u32 a0_9) := (kC BK254.out 9).trans rfl; have hcz4_10 : w3.cell? ⟨gb254, 10, none⟩ = some (.int .u32 a0_10) := (kC BK254.out 10).trans rfl; have hcz4_11 : w3.cell? ⟨gb254, 11, none⟩ = some (.slice A0_11 l0_11.length c0_11) := (kC BK254.out 11).trans rfl; have hcz4_12 : w3.cell? ⟨gb254, 12, none⟩ = some (.slice A0_12 l0_12.length c0_12) := (kC BK254.out 12).trans rfl; have hcz4_13 : w3.cell? ⟨gb254, 13, none⟩ = some (.slice A0_13 l0_13.length c0_13) := (kC BK254.out 13).trans rfl; have hcz4_14 : w3.cell? ⟨gb254, 14, none⟩ = some (.slice A0_14 l0_14.length c0_14) := (kC BK254.out 14).trans rfl; have hfz4_0 := kF BK254.out 0; have hfz4_1 := kF BK254.out 1; have hfz4_2 := kF BK254.out 2; have hfz4_3 := kF BK254.out 3; have hfz4_4 := kF BK254.out 4; have hfz4_5 := kF BK254.out 5; have hfz4_6 := kF BK254.out 6; have hfz4_7 := kF BK254.out 7; have hfz4_8 := kF BK254.out 8; have hfz4_9 := kF BK254.out 9; have hfz4_10 := kF BK254.out 10; have hfz4_11 := kF BK254.out 11; have hfz4_12 := kF BK254.out 12; have hfz4_13 := kF BK254.out 13; have hfz4_14 := kF BK254.out 14))
 go_loopg [12] k (fun kq v12 w' => ∃ (x12_1 : Int), v12 = .int .i64 x12_1 ∧ Aside0 (report_Listing.l0 kq a1 l0_11 (l0_11.length : Int) x12_1 a0_0 a0_1 a0_2 a0_3 a0_4 l0_5 l0_6 a0_7 a0_8 a0_9 a0_10 l0_11 l0_12 l0_13 l0_14 = some (r1, r2)) ∧ Aside0 (kq ≤ k) ∧ Aside0 (w'.heap[gb254]? = some (.cells #[.int .u32 a0_0, .int .u32 a0_1, .int .u32 a0_2, .int .u32 a0_3, .int .u32 a0_4, (.slice A0_5 l0_5.length c0_5), (.slice A0_6 l0_6.length c0_6), .int .u32 a0_7, .int .u32 a0_8, .int .u32 a0_9, .int .u32 a0_10, (.slice A0_11 l0_11.length c0_11), (.slice A0_12 l0_12.length c0_12), (.slice A0_13 l0_13.length c0_13), (.slice A0_14 l0_14.length c0_14)] 51 (0, 0))) ∧ Aside0 (Below w.heap.size w w'))
 case atStart => exact ⟨(0), (by first | rfl | (simp; done) | (simp [*]; done)), H', ⟨Nat.le_refl _⟩, ⟨by (with_reducible repeat (first | refine kN ?_ _ | refine kD ?_ | refine kA ?_ _)); exact BK254.out⟩, ⟨by repeat (first | (with_reducible first | exact HB.out | apply bA | apply bN | apply bD | refine bS ?_ GE254.out) | exact HB.out)⟩⟩
 case round =>
  clear H'
  (try clear hcz4_0); (try clear hcz4_1); (try clear hcz4_10); (try clear hcz4_11); (try clear hcz4_12); (try clear hcz4_13); (try clear hcz4_14); (try clear hcz4_2); (try clear hcz4_3); (try clear hcz4_4); (try clear hcz4_5); (try clear hcz4_6); (try clear hcz4_7); (try clear hcz4_8); (try clear hcz4_9); (try clear hfz4_0); (try clear hfz4_1); (try clear hfz4_10); (try clear hfz4_11); (try clear hfz4_12); (try clear hfz4_13); (try clear hfz4_14); (try clear hfz4_2); (try clear hfz4_3); (try clear hfz4_4); (try clear hfz4_5); (try clear hfz4_6); (try clear hfz4_7); (try clear hfz4_8); (try clear hfz4_9)
  obtain ⟨x12_1, rfl, HA, HK1, BK254, HB⟩ := hrel
  cases gk with
  | zero => exact absurd HA.out (by simp [report_Listing.l0])
  | succ k1 =>
   have H := HA.out
   clear HA
   simp only [report_Listing.l0] at H
   by_cases c5 : x12_1 < (l0_11.length : Int)
   ·
    rw [if_pos c5] at H
    have c5b0 : decide (x12_1 < (l0_11.length : Int)) = true := decide_eq_true c5
    clear c5
    by_cases c6 : 0 ≤ x12_1
    ·
     rw [if_pos c6] at H
     have c6b0 : decide (0 ≤ x12_1) = true := decide_eq_true c6
     clear c6
     by_cases c7 : x12_1 < (l0_11.length : Int)
     ·
      rw [if_pos c7] at H
      have c7b0 : decide (x12_1 < (l0_11.length : Int)) = true := decide_eq_true c7
      clear c7
      by_cases c8 : ((rd_T49 l0_11 x12_1).f0).toList = a1.toList
      ·
       rw [if_pos c8] at H
       have c8b0 : (((rd_T49 l0_11 x12_1).f0).toList == a1.toList) = true := beq_iff_eq.mpr c8
       have c8b1 : (((rd_T49 l0_11 x12_1).f0).toList != a1.toList) = false := bR c8
       clear c8
       by_cases c9 : ((rd_T49 l0_11 x12_1).f1) ≥ 0
       ·
        rw [if_pos c9] at H
        have c9b0 : decide (0 ≤ ((rd_T49 l0_11 x12_1).f1)) = true := decide_eq_true c9
        clear c9
        by_cases c10 : ((rd_T49 l0_11 x12_1).f2) ≥ 0
        ·
         rw [if_pos c10] at H
         have c10b0 : decide (0 ≤ ((rd_T49 l0_11 x12_1).f2)) = true := decide_eq_true c10
         clear c10
         by_cases c11 : ((rd_T49 l0_11 x12_1).f1) ≤ (l0_5.length : Int)
         ·
          rw [if_pos c11] at H
          have c11b0 : decide (((rd_T49 l0_11 x12_1).f1) ≤ (l0_5.length : Int)) = true := decide_eq_true c11
          clear c11
          by_cases c12 : ((rd_T49 l0_11 x12_1).f2) ≤ (wrap64 ((l0_5.length : Int) - ((rd_T49 l0_11 x12_1).f1)))
          ·
           rw [if_pos c12] at H
           have c12b0 : decide (((rd_T49 l0_11 x12_1).f2) ≤ (wrap64 ((l0_5.length : Int) - ((rd_T49 l0_11 x12_1).f1)))) = true := decide_eq_true c12
           clear c12
           by_cases c13 : 0 ≤ ((rd_T49 l0_11 x12_1).f1)
           ·
            rw [if_pos c13] at H
            have c13b0 := eq_true c13
            have c13b1 : decide (0 ≤ ((rd_T49 l0_11 x12_1).f1)) = true := decide_eq_true c13
            clear c13
            by_cases c14 : ((rd_T49 l0_11 x12_1).f1) ≤ (wrap64 (((rd_T49 l0_11 x12_1).f1) + ((rd_T49 l0_11 x12_1).f2)))
            ·
             rw [if_pos c14] at H
             have c14b0 := eq_true c14
             have c14b1 : decide (((rd_T49 l0_11 x12_1).f1) ≤ (wrap64 (((rd_T49 l0_11 x12_1).f1) + ((rd_T49 l0_11 x12_1).f2)))) = true := decide_eq_true c14
             by_cases c15 : (wrap64 (((rd_T49 l0_11 x12_1).f1) + ((rd_T49 l0_11 x12_1).f2))) ≤ (l0_5.length : Int)
             ·
              rw [if_pos c15] at H
              have c15b0 := eq_true c15
              have c15b1 : decide ((wrap64 (((rd_T49 l0_11 x12_1).f1) + ((rd_T49 l0_11 x12_1).f2))) ≤ (l0_5.length : Int)) = true := decide_eq_true c15
              replace H := oB H
              obtain ⟨t258, A160, H⟩ := H
              replace H : (some (t258, 0)) = some (r1, r2) := H
              have A16 := mK A160
              clear A160
              simp only [Option.some.injEq, Prod.mk.injEq] at H
              obtain ⟨rfl, rfl⟩ := H
              have p255 : 0 ≤ (x12_1 : Int) := of_decide_eq_true (by first | (with_reducible assumption) | assumption)
              have q255 : x12_1 < (l0_11.length : Int) := of_decide_eq_true (by first | (with_reducible assumption) | assumption)
              obtain ⟨ad255, e255, hx255_0, hx255_1, hx255_2, hx255_3, hx255_4⟩ := at_T49 HR0_11.out x12_1 p255 q255
              cases e255
              replace hx255_0 := (HB.out.cell (World.block_lt_of_cell? w _ hx255_0)).trans hx255_0
              replace hx255_1 := (HB.out.cell (World.block_lt_of_cell? w _ hx255_1)).trans hx255_1
              replace hx255_2 := (HB.out.cell (World.block_lt_of_cell? w _ hx255_2)).trans hx255_2
              replace hx255_3 := (HB.out.cell (World.block_lt_of_cell? w _ hx255_3)).trans hx255_3
              replace hx255_4 := (HB.out.cell (World.block_lt_of_cell? w _ hx255_4)).trans hx255_4
              replace p255 := eq_true p255
              replace q255 := eq_true q255
              try go_wp2_with (first | ((with_reducible refine gate_dst (N := 7) rfl ?_); (try (refine gate_guard (by rfl) ?_; dsimp only)); refine box_event ?hg (N := 7) ?hd (cs := #[.string (⟨#[]⟩ : ByteArray), .int .i64 0, .int .i64 0, .int .i64 0, .int .i64 0]) (t := 49) ?hr ?_; (case hd => rfl); (case hg => rfl); (case hr => first | (go_simp; done) | (go_simp; rfl)); intro gb256 hg w17 hbox hb; have n0_ := mK (kB (g := gb254) (o := .cells #[.int .u32 a0_0, .int .u32 a0_1, .int .u32 a0_2, .int .u32 a0_3, .int .u32 a0_4, .slice A0_5 l0_5.length c0_5, .slice A0_6 l0_6.length c0_6, .int .u32 a0_7, .int .u32 a0_8, .int .u32 a0_9, .int .u32 a0_10, .slice (some ad255) l0_11.length c0_11, .slice A0_12 l0_12.length c0_12, .slice A0_13 l0_13.length c0_13, .slice A0_14 l0_14.length c0_14] 51 (0, 0)) (by (with_reducible repeat (first | refine kN ?_ _ | refine kD ?_ | refine kA ?_ _)); exact BK254.out) hb); have n1_ := mK (bP (by repeat (first | (with_reducible first | exact HB.out | apply bA | apply bN | apply bD | refine bS ?_ GE254.out) | exact HB.out)) hb); have n2_ := mK (hbox); have n3_ := mK ((by rw [hg]; exact (bZ (by repeat (first | (with_reducible first | exact HB.out | apply bA | apply bN | apply bD | refine bS ?_ GE254.out) | exact HB.out))) : w.heap.size ≤ gb256)); have n4_ := mK ((by rw [hg]; exact (bZ (by repeat (first | (with_reducible first | exact HB.out | apply bA | apply bN | apply bD | refine bS ?_ GE254.out) | exact HB.out))) : w.heap.size ≤ gb256)); have n5_ := mK ((by rw [hg]; exact Nat.ne_of_lt (blk_lt (g := gb254) (o := .cells #[.int .u32 a0_0, .int .u32 a0_1, .int .u32 a0_2, .int .u32 a0_3, .int .u32 a0_4, .slice A0_5 l0_5.length c0_5, .slice A0_6 l0_6.length c0_6, .int .u32 a0_7, .int .u32 a0_8, .int .u32 a0_9, .int .u32 a0_10, .slice (some ad255) l0_11.length c0_11, .slice A0_12 l0_12.length c0_12, .slice A0_13 l0_13.length c0_13, .slice A0_14 l0_14.length c0_14] 51 (0, 0)) (by (with_reducible repeat (first | refine kN ?_ _ | refine kD ?_ | refine kA ?_ _)); exact BK254.out)) : gb254 ≠ gb256)); have n6_ := mK ((by rw [hg]; exact Nat.ne_of_gt (blk_lt (g := gb254) (o := .cells #[.int .u32 a0_0, .int .u32 a0_1, .int .u32 a0_2, .int .u32 a0_3, .int .u32 a0_4, .slice A0_5 l0_5.length c0_5, .slice A0_6 l0_6.length c0_6, .int .u32 a0_7, .int .u32 a0_8, .int .u32 a0_9, .int .u32 a0_10, .slice (some ad255) l0_11.length c0_11, .slice A0_12 l0_12.length c0_12, .slice A0_13 l0_13.length c0_13, .slice A0_14 l0_14.length c0_14] 51 (0, 0)) (by (with_reducible repeat (first | refine kN ?_ _ | refine kD ?_ | refine kA ?_ _)); exact BK254.out)) : gb256 ≠ gb254)); clear BK254; clear HB; have BK254 := n0_; have HB := n1_; have BK256 := n2_; have GW256 := n3_; have GE256 := n4_; have NB254_256 := n5_; have NB256_254 := n6_; clear n0_ n1_ n2_ n3_ n4_ n5_ n6_; clear hb hbox hg; have hnb18 := NB256_254.out; have hnc18 := NB254_256.out; obtain ⟨hcz19_0, hcz19_1, hcz19_2, hcz19_3, hcz19_4, hfz19_0, hfz19_1, hfz19_2, hfz19_3, hfz19_4⟩ := cf5 BK256.out; have hcz20_0 : w17.cell? ⟨gb254, 0, none⟩ = some (.int .u32 a0_0) := (kC BK254.out 0).trans rfl; have hcz20_1 : w17.cell? ⟨gb254, 1, none⟩ = some (.int .u32 a0_1) := (kC BK254.out 1).trans rfl; have hcz20_2 : w17.cell? ⟨gb254, 2, none⟩ = some (.int .u32 a0_2) := (kC BK254.out 2).trans rfl; have hcz20_3 : w17.cell? ⟨gb254, 3, none⟩ = some (.int .u32 a0_3) := (kC BK254.out 3).trans rfl; have hcz20_4 : w17.cell? ⟨gb254, 4, none⟩ = some (.int .u32 a0_4) := (kC BK254.out 4).trans rfl; have hcz20_5 : w17.cell? ⟨gb254, 5, none⟩ = some (.slice A0_5 l0_5.length c0_5) := (kC BK254.out 5).trans rfl; have hcz20_6 : w17.cell? ⟨gb254, 6, none⟩ = some (.slice A0_6 l0_6.length c0_6) := (kC BK254.out 6).trans rfl; have hcz20_7 : w17.cell? ⟨gb254, 7, none⟩ = some (.int .u32 a0_7) := (kC BK254.out 7).trans rfl; have hcz20_8 : w17.cell? ⟨gb254, 8, none⟩ = some (.int .u32 a0_8) := (kC BK254.out 8).trans rfl; have hcz20_9 : w17.cell? ⟨gb254, 9, none⟩ = some (.int .u32 a0_9) := (kC BK254.out 9).trans rfl; have hcz20_10 : w17.cell? ⟨gb254, 10, none⟩ = some (.int .u32 a0_10) := (kC BK254.out 10).trans rfl; have hcz20_11 : w17.cell? ⟨gb254, 11, none⟩ = some (.slice (some ad255) l0_11.length c0_11) := (kC BK254.out 11).trans rfl; have hcz20_12 : w17.cell? ⟨gb254, 12, none⟩ = some (.slice A0_12 l0_12.length c0_12) := (kC BK254.out 12).trans rfl; have hcz20_13 : w17.cell? ⟨gb254, 13, none⟩ = some (.slice A0_13 l0_13.length c0_13) := (kC BK254.out 13).trans rfl; have hcz20_14 : w17.cell? ⟨gb254, 14, none⟩ = some (.slice A0_14 l0_14.length c0_14) := (kC BK254.out 14).trans rfl; have hfz20_0 := kF BK254.out 0; have hfz20_1 := kF BK254.out 1; have hfz20_2 := kF BK254.out 2; have hfz20_3 := kF BK254.out 3; have hfz20_4 := kF BK254.out 4; have hfz20_5 := kF BK254.out 5; have hfz20_6 := kF BK254.out 6; have hfz20_7 := kF BK254.out 7; have hfz20_8 := kF BK254.out 8; have hfz20_9 := kF BK254.out 9; have hfz20_10 := kF BK254.out 10; have hfz20_11 := kF BK254.out 11; have hfz20_12 := kF BK254.out 12; have hfz20_13 := kF BK254.out 13; have hfz20_14 := kF BK254.out 14))
              have n0_ : Aside0 ((((((w17.setCell ⟨gb256, 0, none⟩ (.string ((rd_T49 l0_11 x12_1).f0))).setCell ⟨gb256, 1, none⟩ (.int .i64 ((rd_T49 l0_11 x12_1).f1))).setCell ⟨gb256, 2, none⟩ (.int .i64 ((rd_T49 l0_11 x12_1).f2))).setCell ⟨gb256, 3, none⟩ (.int .i64 ((rd_T49 l0_11 x12_1).f3))).setCell ⟨gb256, 4, none⟩ (.int .i64 ((rd_T49 l0_11 x12_1).f4))).heap[gb254]? = some (.cells #[.int .u32 a0_0, .int .u32 a0_1, .int .u32 a0_2, .int .u32 a0_3, .int .u32 a0_4, .slice A0_5 l0_5.length c0_5, .slice A0_6 l0_6.length c0_6, .int .u32 a0_7, .int .u32 a0_8, .int .u32 a0_9, .int .u32 a0_10, .slice (some ad255) l0_11.length c0_11, .slice A0_12 l0_12.length c0_12, .slice A0_13 l0_13.length c0_13, .slice A0_14 l0_14.length c0_14] 51 (0, 0))) := ⟨by (with_reducible repeat (first | refine kN ?_ _ | refine kD ?_ | refine kA ?_ _)); refine kR ?_ NB254_256.out _; (with_reducible repeat (first | refine kN ?_ _ | refine kD ?_ | refine kA ?_ _)); refine kR ?_ NB254_256.out _; (with_reducible repeat (first | refine kN ?_ _ | refine kD ?_ | refine kA ?_ _)); refine kR ?_ NB254_256.out _; (with_reducible repeat (first | refine kN ?_ _ | refine kD ?_ | refine kA ?_ _)); refine kR ?_ NB254_256.out _; (with_reducible repeat (first | refine kN ?_ _ | refine kD ?_ | refine kA ?_ _)); refine kR ?_ NB254_256.out _; (with_reducible repeat (first | refine kN ?_ _ | refine kD ?_ | refine kA ?_ _)); exact BK254.out⟩
              have n1_ : Aside0 ((((((w17.setCell ⟨gb256, 0, none⟩ (.string ((rd_T49 l0_11 x12_1).f0))).setCell ⟨gb256, 1, none⟩ (.int .i64 ((rd_T49 l0_11 x12_1).f1))).setCell ⟨gb256, 2, none⟩ (.int .i64 ((rd_T49 l0_11 x12_1).f2))).setCell ⟨gb256, 3, none⟩ (.int .i64 ((rd_T49 l0_11 x12_1).f3))).setCell ⟨gb256, 4, none⟩ (.int .i64 ((rd_T49 l0_11 x12_1).f4))).heap[gb256]? = some (.cells #[.string ((rd_T49 l0_11 x12_1).f0), .int .i64 ((rd_T49 l0_11 x12_1).f1), .int .i64 ((rd_T49 l0_11 x12_1).f2), .int .i64 ((rd_T49 l0_11 x12_1).f3), .int .i64 ((rd_T49 l0_11 x12_1).f4)] 49 (0, 0))) := ⟨by (with_reducible repeat (first | refine kN ?_ _ | refine kD ?_ | refine kA ?_ _)); refine kP (cs := #[.string ((rd_T49 l0_11 x12_1).f0), .int .i64 ((rd_T49 l0_11 x12_1).f1), .int .i64 ((rd_T49 l0_11 x12_1).f2), .int .i64 ((rd_T49 l0_11 x12_1).f3), .int .i64 0]) ?_ 4 _ rfl; (with_reducible repeat (first | refine kN ?_ _ | refine kD ?_ | refine kA ?_ _)); refine kP (cs := #[.string ((rd_T49 l0_11 x12_1).f0), .int .i64 ((rd_T49 l0_11 x12_1).f1), .int .i64 ((rd_T49 l0_11 x12_1).f2), .int .i64 0, .int .i64 0]) ?_ 3 _ rfl; (with_reducible repeat (first | refine kN ?_ _ | refine kD ?_ | refine kA ?_ _)); refine kP (cs := #[.string ((rd_T49 l0_11 x12_1).f0), .int .i64 ((rd_T49 l0_11 x12_1).f1), .int .i64 0, .int .i64 0, .int .i64 0]) ?_ 2 _ rfl; (with_reducible repeat (first | refine kN ?_ _ | refine kD ?_ | refine kA ?_ _)); refine kP (cs := #[.string ((rd_T49 l0_11 x12_1).f0), .int .i64 0, .int .i64 0, .int .i64 0, .int .i64 0]) ?_ 1 _ rfl; (with_reducible repeat (first | refine kN ?_ _ | refine kD ?_ | refine kA ?_ _)); refine kP (cs := #[.string (⟨#[]⟩ : ByteArray), .int .i64 0, .int .i64 0, .int .i64 0, .int .i64 0]) ?_ 0 _ rfl; (with_reducible repeat (first | refine kN ?_ _ | refine kD ?_ | refine kA ?_ _)); exact BK256.out⟩
              have n2_ : Aside0 (Below w.heap.size w (((((w17.setCell ⟨gb256, 0, none⟩ (.string ((rd_T49 l0_11 x12_1).f0))).setCell ⟨gb256, 1, none⟩ (.int .i64 ((rd_T49 l0_11 x12_1).f1))).setCell ⟨gb256, 2, none⟩ (.int .i64 ((rd_T49 l0_11 x12_1).f2))).setCell ⟨gb256, 3, none⟩ (.int .i64 ((rd_T49 l0_11 x12_1).f3))).setCell ⟨gb256, 4, none⟩ (.int .i64 ((rd_T49 l0_11 x12_1).f4)))) := ⟨by repeat (first | (with_reducible first | exact HB.out | apply bA | apply bN | apply bD | refine bS ?_ GE254.out | refine bS ?_ GE256.out) | exact HB.out)⟩
              (try clear BK254)
              (try clear BK256)
              (try clear HB)
              generalize (((((w17.setCell ⟨gb256, 0, none⟩ (.string ((rd_T49 l0_11 x12_1).f0))).setCell ⟨gb256, 1, none⟩ (.int .i64 ((rd_T49 l0_11 x12_1).f1))).setCell ⟨gb256, 2, none⟩ (.int .i64 ((rd_T49 l0_11 x12_1).f2))).setCell ⟨gb256, 3, none⟩ (.int .i64 ((rd_T49 l0_11 x12_1).f3))).setCell ⟨gb256, 4, none⟩ (.int .i64 ((rd_T49 l0_11 x12_1).f4))) = w21 at n0_ n1_ n2_ ⊢
              have BK254 := n0_
              have BK256 := n1_
              have HB := n2_
              clear n0_ n1_ n2_
              have n0_ := mK (kD BK254.out)
              have n1_ := mK (kD BK256.out)
              have n2_ := mK (bD HB.out)
              clear BK254
              clear BK256
              clear HB
              have BK254 := n0_
              have BK256 := n1_
              have HB := n2_
              clear n0_ n1_ n2_
              obtain ⟨i023, hi023, _, hsz23, _⟩ := info_parts info32
              obtain ⟨A23, hcut23, hA23, hC23⟩ := print_mid_of (P := Try.prog) (Value.int .u32) 0 35 32 .i64 .i64 Try.underlying35 hi023 hsz23 A0_5 c0_5 l0_5 ((rd_T49 l0_11 x12_1).f1) (wrap64 (((rd_T49 l0_11 x12_1).f1) + ((rd_T49 l0_11 x12_1).f2))) (of_decide_eq_true (by first | (with_reducible assumption) | assumption)) (by first | omega | exact of_decide_eq_true (by first | (with_reducible assumption) | assumption)) (of_decide_eq_true (by first | (with_reducible assumption) | assumption)) HC0_5.out
              have HR257 := mK (Kd.C_of_reads (h1 := fun _ => rfl) (hA23 _ (Kd.reads_of_C HR0_5.out)))
              have HC257 := mK hC23
              clear hA23 hC23 hi023 hsz23
              refine start_ (n := 18) (S := fun w' => w'.cell? ⟨gb256, 0, none⟩ = some (.string ((rd_T49 l0_11 x12_1).f0)) ∧ w'.cell? ⟨gb256, 1, none⟩ = some (.int .i64 ((rd_T49 l0_11 x12_1).f1)) ∧ w'.cell? ⟨gb256, 2, none⟩ = some (.int .i64 ((rd_T49 l0_11 x12_1).f2)) ∧ w'.cell? ⟨gb256, 3, none⟩ = some (.int .i64 ((rd_T49 l0_11 x12_1).f3)) ∧ w'.cell? ⟨gb256, 4, none⟩ = some (.int .i64 ((rd_T49 l0_11 x12_1).f4)) ∧ w'.cell? ⟨gb254, 0, none⟩ = some (.int .u32 a0_0) ∧ w'.cell? ⟨gb254, 1, none⟩ = some (.int .u32 a0_1) ∧ w'.cell? ⟨gb254, 2, none⟩ = some (.int .u32 a0_2) ∧ w'.cell? ⟨gb254, 3, none⟩ = some (.int .u32 a0_3) ∧ w'.cell? ⟨gb254, 4, none⟩ = some (.int .u32 a0_4) ∧ w'.cell? ⟨gb254, 5, none⟩ = some (.slice A0_5 l0_5.length c0_5) ∧ w'.cell? ⟨gb254, 6, none⟩ = some (.slice A0_6 l0_6.length c0_6) ∧ w'.cell? ⟨gb254, 7, none⟩ = some (.int .u32 a0_7) ∧ w'.cell? ⟨gb254, 8, none⟩ = some (.int .u32 a0_8) ∧ w'.cell? ⟨gb254, 9, none⟩ = some (.int .u32 a0_9) ∧ w'.cell? ⟨gb254, 10, none⟩ = some (.int .u32 a0_10) ∧ w'.cell? ⟨gb254, 11, none⟩ = some (.slice (some ad255) l0_11.length c0_11) ∧ w'.cell? ⟨gb254, 12, none⟩ = some (.slice A0_12 l0_12.length c0_12) ∧ w'.cell? ⟨gb254, 13, none⟩ = some (.slice A0_13 l0_13.length c0_13) ∧ w'.cell? ⟨gb254, 14, none⟩ = some (.slice A0_14 l0_14.length c0_14)) (ds := []) #[false, false, false, false, false, false, false, false, false, false, false, false, false, false, false, false, false, false] (by kernel_rfl) rfl rfl ⟨(kC BK256.out 0).trans rfl, (kC BK256.out 1).trans rfl, (kC BK256.out 2).trans rfl, (kC BK256.out 3).trans rfl, (kC BK256.out 4).trans rfl, (kC BK254.out 0).trans rfl, (kC BK254.out 1).trans rfl, (kC BK254.out 2).trans rfl, (kC BK254.out 3).trans rfl, (kC BK254.out 4).trans rfl, (kC BK254.out 5).trans rfl, (kC BK254.out 6).trans rfl, (kC BK254.out 7).trans rfl, (kC BK254.out 8).trans rfl, (kC BK254.out 9).trans rfl, (kC BK254.out 10).trans rfl, (kC BK254.out 11).trans rfl, (kC BK254.out 12).trans rfl, (kC BK254.out 13).trans rfl, (kC BK254.out 14).trans rfl⟩ (fun hHeld => ?_); refine with_tabW report_Listing.tab5 report_Listing.bits5 (fun HT_ HW_ => ?_)
              generalize w21.drew = w22 at BK254 BK256 HB HR257 hHeld ⊢
              refine pure_ (i := 0) (N := some 51) (v := ?_) (a' := ?_) #[true, false, false, false, false, false, false, false, false, false, false, false, false, false, false, false, false, false] rfl rfl (any_of HT_.out (by kernel_rfl)) (fun _ _ _ h => h) (Or.inl ⟨by rfl, ?_⟩) ?_ ?_
              rotate_left
              ·
               intro w'
               go_simp
               with_reducible rfl
              rotate_left
              ·
               simp only [Act.put, List.setIfInBounds_toArray, List.set_cons_zero, List.set_cons_succ, i64_w, i32_w]
               rfl
              refine pure_ (i := 4) (N := some 55) (v := ?_) (a' := ?_) #[true, false, false, false, true, false, false, false, false, false, false, false, false, false, false, false, false, false] rfl rfl (any_of HT_.out (by kernel_rfl)) (fun _ _ _ h => h) (Or.inl ⟨by rfl, ?_⟩) ?_ ?_
              rotate_left
              ·
               intro w'
               go_simp
               with_reducible rfl
              rotate_left
              ·
               simp only [Act.put, List.setIfInBounds_toArray, List.set_cons_zero, List.set_cons_succ, i64_w, i32_w]
               rfl
              refine pure_ (i := 5) (N := some 56) (v := ?_) (a' := ?_) #[true, false, false, false, true, true, false, false, false, false, false, false, false, false, false, false, false, false] rfl rfl (any_of HT_.out (by kernel_rfl)) (fun _ _ _ h => h) (Or.inl ⟨by rfl, ?_⟩) ?_ ?_
              rotate_left
              ·
               intro w'
               go_simp
               with_reducible rfl
              rotate_left
              ·
               simp only [Act.put, List.setIfInBounds_toArray, List.set_cons_zero, List.set_cons_succ, i64_w, i32_w]
               rfl
              refine pure_ (i := 7) (N := some 58) (v := ?_) (a' := ?_) #[true, false, false, false, true, true, false, true, false, false, false, false, false, false, false, false, false, false] rfl rfl (any_of HT_.out (by kernel_rfl)) (fun _ _ _ h => h) (Or.inl ⟨by rfl, ?_⟩) ?_ ?_
              rotate_left
              ·
               intro w'
               go_simp
               with_reducible rfl
              rotate_left
              ·
               simp only [Act.put, List.setIfInBounds_toArray, List.set_cons_zero, List.set_cons_succ, i64_w, i32_w]
               rfl
              refine pure_ (i := 9) (N := some 60) (v := ?_) (a' := ?_) #[true, false, false, false, true, true, false, true, false, true, false, false, false, false, false, false, false, false] rfl rfl (any_of HT_.out (by kernel_rfl)) (fun _ _ _ h => h) (Or.inl ⟨by rfl, ?_⟩) ?_ ?_
              rotate_left
              ·
               intro w'
               go_simp
               with_reducible rfl
              rotate_left
              ·
               simp only [Act.put, List.setIfInBounds_toArray, List.set_cons_zero, List.set_cons_succ, i64_w, i32_w]
               rfl
              refine pure_ (i := 11) (N := some 62) (v := ?_) (a' := ?_) #[true, false, false, false, true, true, false, true, false, true, false, true, false, false, false, false, false, false] rfl rfl (any_of HT_.out (by kernel_rfl)) (fun _ _ _ h => h) (Or.inl ⟨by rfl, ?_⟩) ?_ ?_
              rotate_left
              ·
               intro w'
               go_simp
               with_reducible rfl
              rotate_left
              ·
               simp only [Act.put, List.setIfInBounds_toArray, List.set_cons_zero, List.set_cons_succ, i64_w, i32_w]
               rfl
              refine take_ (i := 1) (N := some 52) (v := ?_) (a' := ?_) #[true, true, false, false, true, true, false, true, false, true, false, true, false, false, false, false, false, false] rfl rfl (take_ofW HT_.out HW_.out (by kernel_rfl)) (fun _ _ _ h => h) (Or.inl ⟨by rfl, ?_⟩) hHeld ?_ ?_
              rotate_left
              ·
               rintro w' ⟨s0, s1, s2, s3, s4, s5, s6, s7, s8, s9, s10, s11, s12, s13, s14, s15, s16, s17, s18, s19⟩
               go_simp
               with_reducible rfl
              rotate_left
              ·
               simp only [Act.put, List.setIfInBounds_toArray, List.set_cons_zero, List.set_cons_succ, i64_w, i32_w]
               rfl
              refine pure_ (i := 2) (N := some 53) (v := ?_) (a' := ?_) #[true, true, true, false, true, true, false, true, false, true, false, true, false, false, false, false, false, false] rfl rfl (any_of HT_.out (by kernel_rfl)) (fun _ _ _ h => h) (Or.inl ⟨by rfl, ?_⟩) ?_ ?_
              rotate_left
              ·
               intro w'
               go_simp
               with_reducible rfl
              rotate_left
              ·
               simp only [Act.put, List.setIfInBounds_toArray, List.set_cons_zero, List.set_cons_succ, i64_w, i32_w]
               rfl
              refine pure_ (i := 3) (N := some 54) (v := ?_) (a' := ?_) #[true, true, true, true, true, true, false, true, false, true, false, true, false, false, false, false, false, false] rfl rfl (any_of HT_.out (by kernel_rfl)) (fun _ _ _ h => h) (Or.inl ⟨by rfl, ?_⟩) ?_ ?_
              rotate_left
              ·
               intro w'
               go_simp
               with_reducible rfl
              rotate_left
              ·
               simp only [Act.put, List.setIfInBounds_toArray, List.set_cons_zero, List.set_cons_succ, i64_w, i32_w]
               rfl
              refine take_ (i := 6) (N := some 57) (v := ?_) (a' := ?_) #[true, true, true, true, true, true, true, true, false, true, false, true, false, false, false, false, false, false] rfl rfl (take_ofW HT_.out HW_.out (by kernel_rfl)) (fun _ _ _ h => h) (Or.inl ⟨by rfl, ?_⟩) hHeld ?_ ?_
              rotate_left
              ·
               rintro w' ⟨s0, s1, s2, s3, s4, s5, s6, s7, s8, s9, s10, s11, s12, s13, s14, s15, s16, s17, s18, s19⟩
               go_simp
               with_reducible rfl
              rotate_left
              ·
               simp only [Act.put, List.setIfInBounds_toArray, List.set_cons_zero, List.set_cons_succ, i64_w, i32_w]
               rfl
              refine take_ (i := 8) (N := some 59) (v := ?_) (a' := ?_) #[true, true, true, true, true, true, true, true, true, true, false, true, false, false, false, false, false, false] rfl rfl (take_ofW HT_.out HW_.out (by kernel_rfl)) (fun _ _ _ h => h) (Or.inl ⟨by rfl, ?_⟩) hHeld ?_ ?_
              rotate_left
              ·
               rintro w' ⟨s0, s1, s2, s3, s4, s5, s6, s7, s8, s9, s10, s11, s12, s13, s14, s15, s16, s17, s18, s19⟩
               go_simp
               with_reducible rfl
              rotate_left
              ·
               simp only [Act.put, List.setIfInBounds_toArray, List.set_cons_zero, List.set_cons_succ, i64_w, i32_w]
               rfl
              refine take_ (i := 10) (N := some 61) (v := ?_) (a' := ?_) #[true, true, true, true, true, true, true, true, true, true, true, true, false, false, false, false, false, false] rfl rfl (take_ofW HT_.out HW_.out (by kernel_rfl)) (fun _ _ _ h => h) (Or.inl ⟨by rfl, ?_⟩) hHeld ?_ ?_
              rotate_left
              ·
               rintro w' ⟨s0, s1, s2, s3, s4, s5, s6, s7, s8, s9, s10, s11, s12, s13, s14, s15, s16, s17, s18, s19⟩
               go_simp
               with_reducible rfl
              rotate_left
              ·
               simp only [Act.put, List.setIfInBounds_toArray, List.set_cons_zero, List.set_cons_succ, i64_w, i32_w]
               rfl
              refine take_ (i := 12) (N := some 63) (v := ?_) (a' := ?_) #[true, true, true, true, true, true, true, true, true, true, true, true, true, false, false, false, false, false] rfl rfl (take_ofW HT_.out HW_.out (by kernel_rfl)) (fun _ _ _ h => h) (Or.inl ⟨by rfl, ?_⟩) hHeld ?_ ?_
              rotate_left
              ·
               rintro w' ⟨s0, s1, s2, s3, s4, s5, s6, s7, s8, s9, s10, s11, s12, s13, s14, s15, s16, s17, s18, s19⟩
               go_simp
               with_reducible rfl
              rotate_left
              ·
               simp only [Act.put, List.setIfInBounds_toArray, List.set_cons_zero, List.set_cons_succ, i64_w, i32_w]
               rfl
              refine pure_ (i := 13) (N := some 64) (v := ?_) (a' := ?_) #[true, true, true, true, true, true, true, true, true, true, true, true, true, true, false, false, false, false] rfl rfl (any_of HT_.out (by kernel_rfl)) (fun _ _ _ h => h) (Or.inl ⟨by rfl, ?_⟩) ?_ ?_
              rotate_left
              ·
               intro w'
               go_simp
               with_reducible rfl
              rotate_left
              ·
               simp only [Act.put, List.setIfInBounds_toArray, List.set_cons_zero, List.set_cons_succ, i64_w, i32_w]
               rfl
              refine pure_ (i := 14) (N := some 65) (v := ?_) (a' := ?_) #[true, true, true, true, true, true, true, true, true, true, true, true, true, true, true, false, false, false] rfl rfl (any_of HT_.out (by kernel_rfl)) (fun _ _ _ h => h) (Or.inl ⟨by rfl, ?_⟩) ?_ ?_
              rotate_left
              ·
               intro w'
               go_simp
               with_reducible rfl
              rotate_left
              ·
               simp only [Act.put, List.setIfInBounds_toArray, List.set_cons_zero, List.set_cons_succ, i64_w, i32_w]
               rfl
              refine one_ (i := 15) (N := some 66) #[true, true, true, true, true, true, true, true, true, true, true, true, true, true, true, true, false, false] rfl rfl (one_of HT_.out (by kernel_rfl)) (by decide) (fun K hK => ?_)
              refine goes_ Try.func34 (by kernel_rfl) rfl #[.int .u32 ((wrap64 (4 * ((rd_T49 l0_11 x12_1).f1))) % 4294967296), .slice A23 ((l0_5.take ((wrap64 (((rd_T49 l0_11 x12_1).f1) + ((rd_T49 l0_11 x12_1).f2))) : Int).toNat).drop (((rd_T49 l0_11 x12_1).f1) : Int).toNat).length (c0_5 - ((rd_T49 l0_11 x12_1).f1).toNat)] (by rfl) rfl rfl (by (try simp only [List.map_toArray, List.map_cons, List.map_nil]); first | done | (rw [show ((l0_5.take ((wrap64 (((rd_T49 l0_11 x12_1).f1) + ((rd_T49 l0_11 x12_1).f2))) : Int).toNat).drop (((rd_T49 l0_11 x12_1).f1) : Int).toNat).length = ((wrap64 (((rd_T49 l0_11 x12_1).f1) + ((rd_T49 l0_11 x12_1).f2))).toNat - ((rd_T49 l0_11 x12_1).f1).toNat) from (by rw [List.length_drop, List.length_take]; have h_ : ((wrap64 (((rd_T49 l0_11 x12_1).f1) + ((rd_T49 l0_11 x12_1).f2))) : Int) ≤ (l0_5.length : Int) := of_decide_eq_true (by first | (with_reducible assumption) | assumption); omega)] <;> rfl) | rfl | (simp only [List.length_drop, List.length_take]; rfl)) ?_
              with_reducible refine (listing_Print.calls k1 ((wrap64 (4 * ((rd_T49 l0_11 x12_1).f1))) % 4294967296) _ _ ((l0_5.take ((wrap64 (((rd_T49 l0_11 x12_1).f1) + ((rd_T49 l0_11 x12_1).f2))) : Int).toNat).drop (((rd_T49 l0_11 x12_1).f1) : Int).toNat) t258 _ ?side1 ?side2 A16.out).mono ?_
              (case side1 => repeat (first | exact (Kd.C_below HR257.out HB.out) | (with_reducible refine Kd.C_alloc ?_ _) | (with_reducible refine Kd.C_drewN ?_ _) | (with_reducible refine Kd.C_drew ?_)))
              (case side2 => exact HC257.out)
              rintro e w24 ⟨rfl, hb⟩
              refine ⟨_, rfl, ?_⟩
              have n0_ := mK (kB (g := gb254) (o := .cells #[.int .u32 a0_0, .int .u32 a0_1, .int .u32 a0_2, .int .u32 a0_3, .int .u32 a0_4, .slice A0_5 l0_5.length c0_5, .slice A0_6 l0_6.length c0_6, .int .u32 a0_7, .int .u32 a0_8, .int .u32 a0_9, .int .u32 a0_10, .slice (some ad255) l0_11.length c0_11, .slice A0_12 l0_12.length c0_12, .slice A0_13 l0_13.length c0_13, .slice A0_14 l0_14.length c0_14] 51 (0, 0)) (by (with_reducible repeat (first | refine kN ?_ _ | refine kD ?_ | refine kA ?_ _)); exact BK254.out) hb)
              have n1_ := mK (kB (g := gb256) (o := .cells #[.string ((rd_T49 l0_11 x12_1).f0), .int .i64 ((rd_T49 l0_11 x12_1).f1), .int .i64 ((rd_T49 l0_11 x12_1).f2), .int .i64 ((rd_T49 l0_11 x12_1).f3), .int .i64 ((rd_T49 l0_11 x12_1).f4)] 49 (0, 0)) (by (with_reducible repeat (first | refine kN ?_ _ | refine kD ?_ | refine kA ?_ _)); exact BK256.out) hb)
              have n2_ := mK (bP (by repeat (first | (with_reducible first | exact HB.out | apply bA | apply bN | apply bD | refine bS ?_ GE254.out | refine bS ?_ GE256.out) | exact HB.out)) hb)
              clear BK254
              clear BK256
              clear HB
              have BK254 := n0_
              have BK256 := n1_
              have HB := n2_
              clear n0_ n1_ n2_
              (try clear hb)
              refine hK.out _ _ ⟨(kC BK256.out 0).trans rfl, (kC BK256.out 1).trans rfl, (kC BK256.out 2).trans rfl, (kC BK256.out 3).trans rfl, (kC BK256.out 4).trans rfl, (kC BK254.out 0).trans rfl, (kC BK254.out 1).trans rfl, (kC BK254.out 2).trans rfl, (kC BK254.out 3).trans rfl, (kC BK254.out 4).trans rfl, (kC BK254.out 5).trans rfl, (kC BK254.out 6).trans rfl, (kC BK254.out 7).trans rfl, (kC BK254.out 8).trans rfl, (kC BK254.out 9).trans rfl, (kC BK254.out 10).trans rfl, (kC BK254.out 11).trans rfl, (kC BK254.out 12).trans rfl, (kC BK254.out 13).trans rfl, (kC BK254.out 14).trans rfl⟩ (fun hHeld => ?_)
              clear hK K
              refine norm_ (a' := ?_) ?_ ?_
              rotate_left
              ·
               show Act.put _ (some 66) _ = _
               simp only [Act.put, List.setIfInBounds_toArray, List.set_cons_zero, List.set_cons_succ, i64_w, i32_w]
               rfl
              refine pure_ (i := 16) (N := some 4) (v := ?_) (a' := ?_) #[true, true, true, true, true, true, true, true, true, true, true, true, true, true, true, true, true, false] rfl rfl (any_of HT_.out (by kernel_rfl)) (fun _ _ _ h => h) (Or.inl ⟨by rfl, ?_⟩) ?_ ?_
              rotate_left
              ·
               intro w'
               go_simp
               with_reducible rfl
              rotate_left
              ·
               simp only [Act.put, List.setIfInBounds_toArray, List.set_cons_zero, List.set_cons_succ, i64_w, i32_w]
               rfl
              refine pure_ (i := 17) (N := some 5) (v := ?_) (a' := ?_) #[true, true, true, true, true, true, true, true, true, true, true, true, true, true, true, true, true, true] rfl rfl (any_of HT_.out (by kernel_rfl)) (fun _ _ _ h => h) (Or.inl ⟨by rfl, ?_⟩) ?_ ?_
              rotate_left
              ·
               intro w'
               go_simp
               with_reducible rfl
              rotate_left
              ·
               simp only [Act.put, List.setIfInBounds_toArray, List.set_cons_zero, List.set_cons_succ, i64_w, i32_w]
               rfl
              refine done_ (done_of HT_.out (by kernel_rfl)) ?_
              try go_wp2
              go_ret2
              exact ⟨by first | rfl | (simp [errW_none, errW_some] <;> rfl) | (simp [*, errW_none, errW_some] <;> rfl), by repeat (first | (with_reducible first | exact HB.out | apply bA | apply bN | apply bD | refine bS ?_ GE254.out | refine bS ?_ GE256.out) | exact HB.out)⟩
             ·
              rw [if_neg c15] at H
              exact absurd H (by simp)
            ·
             rw [if_neg c14] at H
             exact absurd H (by simp)
           ·
            rw [if_neg c13] at H
            exact absurd H (by simp)
          ·
           rw [if_neg c12] at H
           have c12b0 : decide (((rd_T49 l0_11 x12_1).f2) ≤ (wrap64 ((l0_5.length : Int) - ((rd_T49 l0_11 x12_1).f1)))) = false := decide_eq_false c12
           clear c12
           have H' := mK H
           clear H
           have p255 : 0 ≤ (x12_1 : Int) := of_decide_eq_true (by first | (with_reducible assumption) | assumption)
           have q255 : x12_1 < (l0_11.length : Int) := of_decide_eq_true (by first | (with_reducible assumption) | assumption)
           obtain ⟨ad255, e255, hx255_0, hx255_1, hx255_2, hx255_3, hx255_4⟩ := at_T49 HR0_11.out x12_1 p255 q255
           cases e255
           replace hx255_0 := (HB.out.cell (World.block_lt_of_cell? w _ hx255_0)).trans hx255_0
           replace hx255_1 := (HB.out.cell (World.block_lt_of_cell? w _ hx255_1)).trans hx255_1
           replace hx255_2 := (HB.out.cell (World.block_lt_of_cell? w _ hx255_2)).trans hx255_2
           replace hx255_3 := (HB.out.cell (World.block_lt_of_cell? w _ hx255_3)).trans hx255_3
           replace hx255_4 := (HB.out.cell (World.block_lt_of_cell? w _ hx255_4)).trans hx255_4
           replace p255 := eq_true p255
           replace q255 := eq_true q255
           go_wp2_with (first | ((with_reducible refine gate_dst (N := 7) rfl ?_); (try (refine gate_guard (by rfl) ?_; dsimp only)); refine box_event ?hg (N := 7) ?hd (cs := #[.string (⟨#[]⟩ : ByteArray), .int .i64 0, .int .i64 0, .int .i64 0, .int .i64 0]) (t := 49) ?hr ?_; (case hd => rfl); (case hg => rfl); (case hr => first | (go_simp; done) | (go_simp; rfl)); intro gb256 hg w25 hbox hb; have n0_ := mK (kB (g := gb254) (o := .cells #[.int .u32 a0_0, .int .u32 a0_1, .int .u32 a0_2, .int .u32 a0_3, .int .u32 a0_4, .slice A0_5 l0_5.length c0_5, .slice A0_6 l0_6.length c0_6, .int .u32 a0_7, .int .u32 a0_8, .int .u32 a0_9, .int .u32 a0_10, .slice (some ad255) l0_11.length c0_11, .slice A0_12 l0_12.length c0_12, .slice A0_13 l0_13.length c0_13, .slice A0_14 l0_14.length c0_14] 51 (0, 0)) (by (with_reducible repeat (first | refine kN ?_ _ | refine kD ?_ | refine kA ?_ _)); exact BK254.out) hb); have n1_ := mK (bP (by repeat (first | (with_reducible first | exact HB.out | apply bA | apply bN | apply bD | refine bS ?_ GE254.out) | exact HB.out)) hb); have n2_ := mK (hbox); have n3_ := mK ((by rw [hg]; exact (bZ (by repeat (first | (with_reducible first | exact HB.out | apply bA | apply bN | apply bD | refine bS ?_ GE254.out) | exact HB.out))) : w.heap.size ≤ gb256)); have n4_ := mK ((by rw [hg]; exact (bZ (by repeat (first | (with_reducible first | exact HB.out | apply bA | apply bN | apply bD | refine bS ?_ GE254.out) | exact HB.out))) : w.heap.size ≤ gb256)); have n5_ := mK ((by rw [hg]; exact Nat.ne_of_lt (blk_lt (g := gb254) (o := .cells #[.int .u32 a0_0, .int .u32 a0_1, .int .u32 a0_2, .int .u32 a0_3, .int .u32 a0_4, .slice A0_5 l0_5.length c0_5, .slice A0_6 l0_6.length c0_6, .int .u32 a0_7, .int .u32 a0_8, .int .u32 a0_9, .int .u32 a0_10, .slice (some ad255) l0_11.length c0_11, .slice A0_12 l0_12.length c0_12, .slice A0_13 l0_13.length c0_13, .slice A0_14 l0_14.length c0_14] 51 (0, 0)) (by (with_reducible repeat (first | refine kN ?_ _ | refine kD ?_ | refine kA ?_ _)); exact BK254.out)) : gb254 ≠ gb256)); have n6_ := mK ((by rw [hg]; exact Nat.ne_of_gt (blk_lt (g := gb254) (o := .cells #[.int .u32 a0_0, .int .u32 a0_1, .int .u32 a0_2, .int .u32 a0_3, .int .u32 a0_4, .slice A0_5 l0_5.length c0_5, .slice A0_6 l0_6.length c0_6, .int .u32 a0_7, .int .u32 a0_8, .int .u32 a0_9, .int .u32 a0_10, .slice (some ad255) l0_11.length c0_11, .slice A0_12 l0_12.length c0_12, .slice A0_13 l0_13.length c0_13, .slice A0_14 l0_14.length c0_14] 51 (0, 0)) (by (with_reducible repeat (first | refine kN ?_ _ | refine kD ?_ | refine kA ?_ _)); exact BK254.out)) : gb256 ≠ gb254)); clear BK254; clear HB; have BK254 := n0_; have HB := n1_; have BK256 := n2_; have GW256 := n3_; have GE256 := n4_; have NB254_256 := n5_; have NB256_254 := n6_; clear n0_ n1_ n2_ n3_ n4_ n5_ n6_; clear hb hbox hg; have hnb26 := NB256_254.out; have hnc26 := NB254_256.out; obtain ⟨hcz27_0, hcz27_1, hcz27_2, hcz27_3, hcz27_4, hfz27_0, hfz27_1, hfz27_2, hfz27_3, hfz27_4⟩ := cf5 BK256.out; have hcz28_0 : w25.cell? ⟨gb254, 0, none⟩ = some (.int .u32 a0_0) := (kC BK254.out 0).trans rfl; have hcz28_1 : w25.cell? ⟨gb254, 1, none⟩ = some (.int .u32 a0_1) := (kC BK254.out 1).trans rfl; have hcz28_2 : w25.cell? ⟨gb254, 2, none⟩ = some (.int .u32 a0_2) := (kC BK254.out 2).trans rfl; have hcz28_3 : w25.cell? ⟨gb254, 3, none⟩ = some (.int .u32 a0_3) := (kC BK254.out 3).trans rfl; have hcz28_4 : w25.cell? ⟨gb254, 4, none⟩ = some (.int .u32 a0_4) := (kC BK254.out 4).trans rfl; have hcz28_5 : w25.cell? ⟨gb254, 5, none⟩ = some (.slice A0_5 l0_5.length c0_5) := (kC BK254.out 5).trans rfl; have hcz28_6 : w25.cell? ⟨gb254, 6, none⟩ = some (.slice A0_6 l0_6.length c0_6) := (kC BK254.out 6).trans rfl; have hcz28_7 : w25.cell? ⟨gb254, 7, none⟩ = some (.int .u32 a0_7) := (kC BK254.out 7).trans rfl; have hcz28_8 : w25.cell? ⟨gb254, 8, none⟩ = some (.int .u32 a0_8) := (kC BK254.out 8).trans rfl; have hcz28_9 : w25.cell? ⟨gb254, 9, none⟩ = some (.int .u32 a0_9) := (kC BK254.out 9).trans rfl; have hcz28_10 : w25.cell? ⟨gb254, 10, none⟩ = some (.int .u32 a0_10) := (kC BK254.out 10).trans rfl; have hcz28_11 : w25.cell? ⟨gb254, 11, none⟩ = some (.slice (some ad255) l0_11.length c0_11) := (kC BK254.out 11).trans rfl; have hcz28_12 : w25.cell? ⟨gb254, 12, none⟩ = some (.slice A0_12 l0_12.length c0_12) := (kC BK254.out 12).trans rfl; have hcz28_13 : w25.cell? ⟨gb254, 13, none⟩ = some (.slice A0_13 l0_13.length c0_13) := (kC BK254.out 13).trans rfl; have hcz28_14 : w25.cell? ⟨gb254, 14, none⟩ = some (.slice A0_14 l0_14.length c0_14) := (kC BK254.out 14).trans rfl; have hfz28_0 := kF BK254.out 0; have hfz28_1 := kF BK254.out 1; have hfz28_2 := kF BK254.out 2; have hfz28_3 := kF BK254.out 3; have hfz28_4 := kF BK254.out 4; have hfz28_5 := kF BK254.out 5; have hfz28_6 := kF BK254.out 6; have hfz28_7 := kF BK254.out 7; have hfz28_8 := kF BK254.out 8; have hfz28_9 := kF BK254.out 9; have hfz28_10 := kF BK254.out 10; have hfz28_11 := kF BK254.out 11; have hfz28_12 := kF BK254.out 12; have hfz28_13 := kF BK254.out 13; have hfz28_14 := kF BK254.out 14))
           go_roundg k1
           case measure => have := HK1.out; omega
           case rel => exact ⟨(wrap64 (x12_1 + 1)), (by first | rfl | (simp; done) | (simp [*]; done)), H', ⟨by have := HK1.out; omega⟩, ⟨by (with_reducible repeat (first | refine kN ?_ _ | refine kD ?_ | refine kA ?_ _)); refine kR ?_ NB254_256.out _; (with_reducible repeat (first | refine kN ?_ _ | refine kD ?_ | refine kA ?_ _)); refine kR ?_ NB254_256.out _; (with_reducible repeat (first | refine kN ?_ _ | refine kD ?_ | refine kA ?_ _)); refine kR ?_ NB254_256.out _; (with_reducible repeat (first | refine kN ?_ _ | refine kD ?_ | refine kA ?_ _)); refine kR ?_ NB254_256.out _; (with_reducible repeat (first | refine kN ?_ _ | refine kD ?_ | refine kA ?_ _)); refine kR ?_ NB254_256.out _; (with_reducible repeat (first | refine kN ?_ _ | refine kD ?_ | refine kA ?_ _)); exact BK254.out⟩, ⟨by repeat (first | (with_reducible first | exact HB.out | apply bA | apply bN | apply bD | refine bS ?_ GE254.out | refine bS ?_ GE256.out) | exact HB.out)⟩⟩
         ·
          rw [if_neg c11] at H
          have c11b0 : decide (((rd_T49 l0_11 x12_1).f1) ≤ (l0_5.length : Int)) = false := decide_eq_false c11
          clear c11
          have H' := mK H
          clear H
          have p255 : 0 ≤ (x12_1 : Int) := of_decide_eq_true (by first | (with_reducible assumption) | assumption)
          have q255 : x12_1 < (l0_11.length : Int) := of_decide_eq_true (by first | (with_reducible assumption) | assumption)
          obtain ⟨ad255, e255, hx255_0, hx255_1, hx255_2, hx255_3, hx255_4⟩ := at_T49 HR0_11.out x12_1 p255 q255
          cases e255
          replace hx255_0 := (HB.out.cell (World.block_lt_of_cell? w _ hx255_0)).trans hx255_0
          replace hx255_1 := (HB.out.cell (World.block_lt_of_cell? w _ hx255_1)).trans hx255_1
          replace hx255_2 := (HB.out.cell (World.block_lt_of_cell? w _ hx255_2)).trans hx255_2
          replace hx255_3 := (HB.out.cell (World.block_lt_of_cell? w _ hx255_3)).trans hx255_3
          replace hx255_4 := (HB.out.cell (World.block_lt_of_cell? w _ hx255_4)).trans hx255_4
          replace p255 := eq_true p255
          replace q255 := eq_true q255
          go_wp2_with (first | ((with_reducible refine gate_dst (N := 7) rfl ?_); (try (refine gate_guard (by rfl) ?_; dsimp only)); refine box_event ?hg (N := 7) ?hd (cs := #[.string (⟨#[]⟩ : ByteArray), .int .i64 0, .int .i64 0, .int .i64 0, .int .i64 0]) (t := 49) ?hr ?_; (case hd => rfl); (case hg => rfl); (case hr => first | (go_simp; done) | (go_simp; rfl)); intro gb256 hg w29 hbox hb; have n0_ := mK (kB (g := gb254) (o := .cells #[.int .u32 a0_0, .int .u32 a0_1, .int .u32 a0_2, .int .u32 a0_3, .int .u32 a0_4, .slice A0_5 l0_5.length c0_5, .slice A0_6 l0_6.length c0_6, .int .u32 a0_7, .int .u32 a0_8, .int .u32 a0_9, .int .u32 a0_10, .slice (some ad255) l0_11.length c0_11, .slice A0_12 l0_12.length c0_12, .slice A0_13 l0_13.length c0_13, .slice A0_14 l0_14.length c0_14] 51 (0, 0)) (by (with_reducible repeat (first | refine kN ?_ _ | refine kD ?_ | refine kA ?_ _)); exact BK254.out) hb); have n1_ := mK (bP (by repeat (first | (with_reducible first | exact HB.out | apply bA | apply bN | apply bD | refine bS ?_ GE254.out) | exact HB.out)) hb); have n2_ := mK (hbox); have n3_ := mK ((by rw [hg]; exact (bZ (by repeat (first | (with_reducible first | exact HB.out | apply bA | apply bN | apply bD | refine bS ?_ GE254.out) | exact HB.out))) : w.heap.size ≤ gb256)); have n4_ := mK ((by rw [hg]; exact (bZ (by repeat (first | (with_reducible first | exact HB.out | apply bA | apply bN | apply bD | refine bS ?_ GE254.out) | exact HB.out))) : w.heap.size ≤ gb256)); have n5_ := mK ((by rw [hg]; exact Nat.ne_of_lt (blk_lt (g := gb254) (o := .cells #[.int .u32 a0_0, .int .u32 a0_1, .int .u32 a0_2, .int .u32 a0_3, .int .u32 a0_4, .slice A0_5 l0_5.length c0_5, .slice A0_6 l0_6.length c0_6, .int .u32 a0_7, .int .u32 a0_8, .int .u32 a0_9, .int .u32 a0_10, .slice (some ad255) l0_11.length c0_11, .slice A0_12 l0_12.length c0_12, .slice A0_13 l0_13.length c0_13, .slice A0_14 l0_14.length c0_14] 51 (0, 0)) (by (with_reducible repeat (first | refine kN ?_ _ | refine kD ?_ | refine kA ?_ _)); exact BK254.out)) : gb254 ≠ gb256)); have n6_ := mK ((by rw [hg]; exact Nat.ne_of_gt (blk_lt (g := gb254) (o := .cells #[.int .u32 a0_0, .int .u32 a0_1, .int .u32 a0_2, .int .u32 a0_3, .int .u32 a0_4, .slice A0_5 l0_5.length c0_5, .slice A0_6 l0_6.length c0_6, .int .u32 a0_7, .int .u32 a0_8, .int .u32 a0_9, .int .u32 a0_10, .slice (some ad255) l0_11.length c0_11, .slice A0_12 l0_12.length c0_12, .slice A0_13 l0_13.length c0_13, .slice A0_14 l0_14.length c0_14] 51 (0, 0)) (by (with_reducible repeat (first | refine kN ?_ _ | refine kD ?_ | refine kA ?_ _)); exact BK254.out)) : gb256 ≠ gb254)); clear BK254; clear HB; have BK254 := n0_; have HB := n1_; have BK256 := n2_; have GW256 := n3_; have GE256 := n4_; have NB254_256 := n5_; have NB256_254 := n6_; clear n0_ n1_ n2_ n3_ n4_ n5_ n6_; clear hb hbox hg; have hnb30 := NB256_254.out; have hnc30 := NB254_256.out; obtain ⟨hcz31_0, hcz31_1, hcz31_2, hcz31_3, hcz31_4, hfz31_0, hfz31_1, hfz31_2, hfz31_3, hfz31_4⟩ := cf5 BK256.out; have hcz32_0 : w29.cell? ⟨gb254, 0, none⟩ = some (.int .u32 a0_0) := (kC BK254.out 0).trans rfl; have hcz32_1 : w29.cell? ⟨gb254, 1, none⟩ = some (.int .u32 a0_1) := (kC BK254.out 1).trans rfl; have hcz32_2 : w29.cell? ⟨gb254, 2, none⟩ = some (.int .u32 a0_2) := (kC BK254.out 2).trans rfl; have hcz32_3 : w29.cell? ⟨gb254, 3, none⟩ = some (.int .u32 a0_3) := (kC BK254.out 3).trans rfl; have hcz32_4 : w29.cell? ⟨gb254, 4, none⟩ = some (.int .u32 a0_4) := (kC BK254.out 4).trans rfl; have hcz32_5 : w29.cell? ⟨gb254, 5, none⟩ = some (.slice A0_5 l0_5.length c0_5) := (kC BK254.out 5).trans rfl; have hcz32_6 : w29.cell? ⟨gb254, 6, none⟩ = some (.slice A0_6 l0_6.length c0_6) := (kC BK254.out 6).trans rfl; have hcz32_7 : w29.cell? ⟨gb254, 7, none⟩ = some (.int .u32 a0_7) := (kC BK254.out 7).trans rfl; have hcz32_8 : w29.cell? ⟨gb254, 8, none⟩ = some (.int .u32 a0_8) := (kC BK254.out 8).trans rfl; have hcz32_9 : w29.cell? ⟨gb254, 9, none⟩ = some (.int .u32 a0_9) := (kC BK254.out 9).trans rfl; have hcz32_10 : w29.cell? ⟨gb254, 10, none⟩ = some (.int .u32 a0_10) := (kC BK254.out 10).trans rfl; have hcz32_11 : w29.cell? ⟨gb254, 11, none⟩ = some (.slice (some ad255) l0_11.length c0_11) := (kC BK254.out 11).trans rfl; have hcz32_12 : w29.cell? ⟨gb254, 12, none⟩ = some (.slice A0_12 l0_12.length c0_12) := (kC BK254.out 12).trans rfl; have hcz32_13 : w29.cell? ⟨gb254, 13, none⟩ = some (.slice A0_13 l0_13.length c0_13) := (kC BK254.out 13).trans rfl; have hcz32_14 : w29.cell? ⟨gb254, 14, none⟩ = some (.slice A0_14 l0_14.length c0_14) := (kC BK254.out 14).trans rfl; have hfz32_0 := kF BK254.out 0; have hfz32_1 := kF BK254.out 1; have hfz32_2 := kF BK254.out 2; have hfz32_3 := kF BK254.out 3; have hfz32_4 := kF BK254.out 4; have hfz32_5 := kF BK254.out 5; have hfz32_6 := kF BK254.out 6; have hfz32_7 := kF BK254.out 7; have hfz32_8 := kF BK254.out 8; have hfz32_9 := kF BK254.out 9; have hfz32_10 := kF BK254.out 10; have hfz32_11 := kF BK254.out 11; have hfz32_12 := kF BK254.out 12; have hfz32_13 := kF BK254.out 13; have hfz32_14 := kF BK254.out 14))
          go_roundg k1
          case measure => have := HK1.out; omega
          case rel => exact ⟨(wrap64 (x12_1 + 1)), (by first | rfl | (simp; done) | (simp [*]; done)), H', ⟨by have := HK1.out; omega⟩, ⟨by (with_reducible repeat (first | refine kN ?_ _ | refine kD ?_ | refine kA ?_ _)); refine kR ?_ NB254_256.out _; (with_reducible repeat (first | refine kN ?_ _ | refine kD ?_ | refine kA ?_ _)); refine kR ?_ NB254_256.out _; (with_reducible repeat (first | refine kN ?_ _ | refine kD ?_ | refine kA ?_ _)); refine kR ?_ NB254_256.out _; (with_reducible repeat (first | refine kN ?_ _ | refine kD ?_ | refine kA ?_ _)); refine kR ?_ NB254_256.out _; (with_reducible repeat (first | refine kN ?_ _ | refine kD ?_ | refine kA ?_ _)); refine kR ?_ NB254_256.out _; (with_reducible repeat (first | refine kN ?_ _ | refine kD ?_ | refine kA ?_ _)); exact BK254.out⟩, ⟨by repeat (first | (with_reducible first | exact HB.out | apply bA | apply bN | apply bD | refine bS ?_ GE254.out | refine bS ?_ GE256.out) | exact HB.out)⟩⟩
        ·
         rw [if_neg c10] at H
         have c10b0 : decide (0 ≤ ((rd_T49 l0_11 x12_1).f2)) = false := decide_eq_false c10
         clear c10
         have H' := mK H
         clear H
         have p255 : 0 ≤ (x12_1 : Int) := of_decide_eq_true (by first | (with_reducible assumption) | assumption)
         have q255 : x12_1 < (l0_11.length : Int) := of_decide_eq_true (by first | (with_reducible assumption) | assumption)
         obtain ⟨ad255, e255, hx255_0, hx255_1, hx255_2, hx255_3, hx255_4⟩ := at_T49 HR0_11.out x12_1 p255 q255
         cases e255
         replace hx255_0 := (HB.out.cell (World.block_lt_of_cell? w _ hx255_0)).trans hx255_0
         replace hx255_1 := (HB.out.cell (World.block_lt_of_cell? w _ hx255_1)).trans hx255_1
         replace hx255_2 := (HB.out.cell (World.block_lt_of_cell? w _ hx255_2)).trans hx255_2
         replace hx255_3 := (HB.out.cell (World.block_lt_of_cell? w _ hx255_3)).trans hx255_3
         replace hx255_4 := (HB.out.cell (World.block_lt_of_cell? w _ hx255_4)).trans hx255_4
         replace p255 := eq_true p255
         replace q255 := eq_true q255
         go_wp2_with (first | ((with_reducible refine gate_dst (N := 7) rfl ?_); (try (refine gate_guard (by rfl) ?_; dsimp only)); refine box_event ?hg (N := 7) ?hd (cs := #[.string (⟨#[]⟩ : ByteArray), .int .i64 0, .int .i64 0, .int .i64 0, .int .i64 0]) (t := 49) ?hr ?_; (case hd => rfl); (case hg => rfl); (case hr => first | (go_simp; done) | (go_simp; rfl)); intro gb256 hg w33 hbox hb; have n0_ := mK (kB (g := gb254) (o := .cells #[.int .u32 a0_0, .int .u32 a0_1, .int .u32 a0_2, .int .u32 a0_3, .int .u32 a0_4, .slice A0_5 l0_5.length c0_5, .slice A0_6 l0_6.length c0_6, .int .u32 a0_7, .int .u32 a0_8, .int .u32 a0_9, .int .u32 a0_10, .slice (some ad255) l0_11.length c0_11, .slice A0_12 l0_12.length c0_12, .slice A0_13 l0_13.length c0_13, .slice A0_14 l0_14.length c0_14] 51 (0, 0)) (by (with_reducible repeat (first | refine kN ?_ _ | refine kD ?_ | refine kA ?_ _)); exact BK254.out) hb); have n1_ := mK (bP (by repeat (first | (with_reducible first | exact HB.out | apply bA | apply bN | apply bD | refine bS ?_ GE254.out) | exact HB.out)) hb); have n2_ := mK (hbox); have n3_ := mK ((by rw [hg]; exact (bZ (by repeat (first | (with_reducible first | exact HB.out | apply bA | apply bN | apply bD | refine bS ?_ GE254.out) | exact HB.out))) : w.heap.size ≤ gb256)); have n4_ := mK ((by rw [hg]; exact (bZ (by repeat (first | (with_reducible first | exact HB.out | apply bA | apply bN | apply bD | refine bS ?_ GE254.out) | exact HB.out))) : w.heap.size ≤ gb256)); have n5_ := mK ((by rw [hg]; exact Nat.ne_of_lt (blk_lt (g := gb254) (o := .cells #[.int .u32 a0_0, .int .u32 a0_1, .int .u32 a0_2, .int .u32 a0_3, .int .u32 a0_4, .slice A0_5 l0_5.length c0_5, .slice A0_6 l0_6.length c0_6, .int .u32 a0_7, .int .u32 a0_8, .int .u32 a0_9, .int .u32 a0_10, .slice (some ad255) l0_11.length c0_11, .slice A0_12 l0_12.length c0_12, .slice A0_13 l0_13.length c0_13, .slice A0_14 l0_14.length c0_14] 51 (0, 0)) (by (with_reducible repeat (first | refine kN ?_ _ | refine kD ?_ | refine kA ?_ _)); exact BK254.out)) : gb254 ≠ gb256)); have n6_ := mK ((by rw [hg]; exact Nat.ne_of_gt (blk_lt (g := gb254) (o := .cells #[.int .u32 a0_0, .int .u32 a0_1, .int .u32 a0_2, .int .u32 a0_3, .int .u32 a0_4, .slice A0_5 l0_5.length c0_5, .slice A0_6 l0_6.length c0_6, .int .u32 a0_7, .int .u32 a0_8, .int .u32 a0_9, .int .u32 a0_10, .slice (some ad255) l0_11.length c0_11, .slice A0_12 l0_12.length c0_12, .slice A0_13 l0_13.length c0_13, .slice A0_14 l0_14.length c0_14] 51 (0, 0)) (by (with_reducible repeat (first | refine kN ?_ _ | refine kD ?_ | refine kA ?_ _)); exact BK254.out)) : gb256 ≠ gb254)); clear BK254; clear HB; have BK254 := n0_; have HB := n1_; have BK256 := n2_; have GW256 := n3_; have GE256 := n4_; have NB254_256 := n5_; have NB256_254 := n6_; clear n0_ n1_ n2_ n3_ n4_ n5_ n6_; clear hb hbox hg; have hnb34 := NB256_254.out; have hnc34 := NB254_256.out; obtain ⟨hcz35_0, hcz35_1, hcz35_2, hcz35_3, hcz35_4, hfz35_0, hfz35_1, hfz35_2, hfz35_3, hfz35_4⟩ := cf5 BK256.out))
         go_roundg k1
         case measure => have := HK1.out; omega
         case rel => exact ⟨(wrap64 (x12_1 + 1)), (by first | rfl | (simp; done) | (simp [*]; done)), H', ⟨by have := HK1.out; omega⟩, ⟨by (with_reducible repeat (first | refine kN ?_ _ | refine kD ?_ | refine kA ?_ _)); refine kR ?_ NB254_256.out _; (with_reducible repeat (first | refine kN ?_ _ | refine kD ?_ | refine kA ?_ _)); refine kR ?_ NB254_256.out _; (with_reducible repeat (first | refine kN ?_ _ | refine kD ?_ | refine kA ?_ _)); refine kR ?_ NB254_256.out _; (with_reducible repeat (first | refine kN ?_ _ | refine kD ?_ | refine kA ?_ _)); refine kR ?_ NB254_256.out _; (with_reducible repeat (first | refine kN ?_ _ | refine kD ?_ | refine kA ?_ _)); refine kR ?_ NB254_256.out _; (with_reducible repeat (first | refine kN ?_ _ | refine kD ?_ | refine kA ?_ _)); exact BK254.out⟩, ⟨by repeat (first | (with_reducible first | exact HB.out | apply bA | apply bN | apply bD | refine bS ?_ GE254.out | refine bS ?_ GE256.out) | exact HB.out)⟩⟩
       ·
        rw [if_neg c9] at H
        have c9b0 : decide (0 ≤ ((rd_T49 l0_11 x12_1).f1)) = false := decide_eq_false c9
        clear c9
        have H' := mK H
        clear H
        have p255 : 0 ≤ (x12_1 : Int) := of_decide_eq_true (by first | (with_reducible assumption) | assumption)
        have q255 : x12_1 < (l0_11.length : Int) := of_decide_eq_true (by first | (with_reducible assumption) | assumption)
        obtain ⟨ad255, e255, hx255_0, hx255_1, hx255_2, hx255_3, hx255_4⟩ := at_T49 HR0_11.out x12_1 p255 q255
        cases e255
        replace hx255_0 := (HB.out.cell (World.block_lt_of_cell? w _ hx255_0)).trans hx255_0
        replace hx255_1 := (HB.out.cell (World.block_lt_of_cell? w _ hx255_1)).trans hx255_1
        replace hx255_2 := (HB.out.cell (World.block_lt_of_cell? w _ hx255_2)).trans hx255_2
        replace hx255_3 := (HB.out.cell (World.block_lt_of_cell? w _ hx255_3)).trans hx255_3
        replace hx255_4 := (HB.out.cell (World.block_lt_of_cell? w _ hx255_4)).trans hx255_4
        replace p255 := eq_true p255
        replace q255 := eq_true q255
        go_wp2_with (first | ((with_reducible refine gate_dst (N := 7) rfl ?_); (try (refine gate_guard (by rfl) ?_; dsimp only)); refine box_event ?hg (N := 7) ?hd (cs := #[.string (⟨#[]⟩ : ByteArray), .int .i64 0, .int .i64 0, .int .i64 0, .int .i64 0]) (t := 49) ?hr ?_; (case hd => rfl); (case hg => rfl); (case hr => first | (go_simp; done) | (go_simp; rfl)); intro gb256 hg w36 hbox hb; have n0_ := mK (kB (g := gb254) (o := .cells #[.int .u32 a0_0, .int .u32 a0_1, .int .u32 a0_2, .int .u32 a0_3, .int .u32 a0_4, .slice A0_5 l0_5.length c0_5, .slice A0_6 l0_6.length c0_6, .int .u32 a0_7, .int .u32 a0_8, .int .u32 a0_9, .int .u32 a0_10, .slice (some ad255) l0_11.length c0_11, .slice A0_12 l0_12.length c0_12, .slice A0_13 l0_13.length c0_13, .slice A0_14 l0_14.length c0_14] 51 (0, 0)) (by (with_reducible repeat (first | refine kN ?_ _ | refine kD ?_ | refine kA ?_ _)); exact BK254.out) hb); have n1_ := mK (bP (by repeat (first | (with_reducible first | exact HB.out | apply bA | apply bN | apply bD | refine bS ?_ GE254.out) | exact HB.out)) hb); have n2_ := mK (hbox); have n3_ := mK ((by rw [hg]; exact (bZ (by repeat (first | (with_reducible first | exact HB.out | apply bA | apply bN | apply bD | refine bS ?_ GE254.out) | exact HB.out))) : w.heap.size ≤ gb256)); have n4_ := mK ((by rw [hg]; exact (bZ (by repeat (first | (with_reducible first | exact HB.out | apply bA | apply bN | apply bD | refine bS ?_ GE254.out) | exact HB.out))) : w.heap.size ≤ gb256)); have n5_ := mK ((by rw [hg]; exact Nat.ne_of_lt (blk_lt (g := gb254) (o := .cells #[.int .u32 a0_0, .int .u32 a0_1, .int .u32 a0_2, .int .u32 a0_3, .int .u32 a0_4, .slice A0_5 l0_5.length c0_5, .slice A0_6 l0_6.length c0_6, .int .u32 a0_7, .int .u32 a0_8, .int .u32 a0_9, .int .u32 a0_10, .slice (some ad255) l0_11.length c0_11, .slice A0_12 l0_12.length c0_12, .slice A0_13 l0_13.length c0_13, .slice A0_14 l0_14.length c0_14] 51 (0, 0)) (by (with_reducible repeat (first | refine kN ?_ _ | refine kD ?_ | refine kA ?_ _)); exact BK254.out)) : gb254 ≠ gb256)); have n6_ := mK ((by rw [hg]; exact Nat.ne_of_gt (blk_lt (g := gb254) (o := .cells #[.int .u32 a0_0, .int .u32 a0_1, .int .u32 a0_2, .int .u32 a0_3, .int .u32 a0_4, .slice A0_5 l0_5.length c0_5, .slice A0_6 l0_6.length c0_6, .int .u32 a0_7, .int .u32 a0_8, .int .u32 a0_9, .int .u32 a0_10, .slice (some ad255) l0_11.length c0_11, .slice A0_12 l0_12.length c0_12, .slice A0_13 l0_13.length c0_13, .slice A0_14 l0_14.length c0_14] 51 (0, 0)) (by (with_reducible repeat (first | refine kN ?_ _ | refine kD ?_ | refine kA ?_ _)); exact BK254.out)) : gb256 ≠ gb254)); clear BK254; clear HB; have BK254 := n0_; have HB := n1_; have BK256 := n2_; have GW256 := n3_; have GE256 := n4_; have NB254_256 := n5_; have NB256_254 := n6_; clear n0_ n1_ n2_ n3_ n4_ n5_ n6_; clear hb hbox hg; have hnb37 := NB256_254.out; have hnc37 := NB254_256.out; obtain ⟨hcz38_0, hcz38_1, hcz38_2, hcz38_3, hcz38_4, hfz38_0, hfz38_1, hfz38_2, hfz38_3, hfz38_4⟩ := cf5 BK256.out))
        go_roundg k1
        case measure => have := HK1.out; omega
        case rel => exact ⟨(wrap64 (x12_1 + 1)), (by first | rfl | (simp; done) | (simp [*]; done)), H', ⟨by have := HK1.out; omega⟩, ⟨by (with_reducible repeat (first | refine kN ?_ _ | refine kD ?_ | refine kA ?_ _)); refine kR ?_ NB254_256.out _; (with_reducible repeat (first | refine kN ?_ _ | refine kD ?_ | refine kA ?_ _)); refine kR ?_ NB254_256.out _; (with_reducible repeat (first | refine kN ?_ _ | refine kD ?_ | refine kA ?_ _)); refine kR ?_ NB254_256.out _; (with_reducible repeat (first | refine kN ?_ _ | refine kD ?_ | refine kA ?_ _)); refine kR ?_ NB254_256.out _; (with_reducible repeat (first | refine kN ?_ _ | refine kD ?_ | refine kA ?_ _)); refine kR ?_ NB254_256.out _; (with_reducible repeat (first | refine kN ?_ _ | refine kD ?_ | refine kA ?_ _)); exact BK254.out⟩, ⟨by repeat (first | (with_reducible first | exact HB.out | apply bA | apply bN | apply bD | refine bS ?_ GE254.out | refine bS ?_ GE256.out) | exact HB.out)⟩⟩
      ·
       rw [if_neg c8] at H
       have c8b0 : (((rd_T49 l0_11 x12_1).f0).toList == a1.toList) = false := bQ c8
       have c8b1 : (((rd_T49 l0_11 x12_1).f0).toList != a1.toList) = true := bne_iff_ne.mpr c8
       have H' := mK H
       clear H
       have p255 : 0 ≤ (x12_1 : Int) := of_decide_eq_true (by first | (with_reducible assumption) | assumption)
       have q255 : x12_1 < (l0_11.length : Int) := of_decide_eq_true (by first | (with_reducible assumption) | assumption)
       obtain ⟨ad255, e255, hx255_0, hx255_1, hx255_2, hx255_3, hx255_4⟩ := at_T49 HR0_11.out x12_1 p255 q255
       cases e255
       replace hx255_0 := (HB.out.cell (World.block_lt_of_cell? w _ hx255_0)).trans hx255_0
       replace hx255_1 := (HB.out.cell (World.block_lt_of_cell? w _ hx255_1)).trans hx255_1
       replace hx255_2 := (HB.out.cell (World.block_lt_of_cell? w _ hx255_2)).trans hx255_2
       replace hx255_3 := (HB.out.cell (World.block_lt_of_cell? w _ hx255_3)).trans hx255_3
       replace hx255_4 := (HB.out.cell (World.block_lt_of_cell? w _ hx255_4)).trans hx255_4
       replace p255 := eq_true p255
       replace q255 := eq_true q255
       go_wp2_with (first | ((with_reducible refine gate_dst (N := 7) rfl ?_); (try (refine gate_guard (by rfl) ?_; dsimp only)); refine box_event ?hg (N := 7) ?hd (cs := #[.string (⟨#[]⟩ : ByteArray), .int .i64 0, .int .i64 0, .int .i64 0, .int .i64 0]) (t := 49) ?hr ?_; (case hd => rfl); (case hg => rfl); (case hr => first | (go_simp; done) | (go_simp; rfl)); intro gb256 hg w39 hbox hb; have n0_ := mK (kB (g := gb254) (o := .cells #[.int .u32 a0_0, .int .u32 a0_1, .int .u32 a0_2, .int .u32 a0_3, .int .u32 a0_4, .slice A0_5 l0_5.length c0_5, .slice A0_6 l0_6.length c0_6, .int .u32 a0_7, .int .u32 a0_8, .int .u32 a0_9, .int .u32 a0_10, .slice (some ad255) l0_11.length c0_11, .slice A0_12 l0_12.length c0_12, .slice A0_13 l0_13.length c0_13, .slice A0_14 l0_14.length c0_14] 51 (0, 0)) (by (with_reducible repeat (first | refine kN ?_ _ | refine kD ?_ | refine kA ?_ _)); exact BK254.out) hb); have n1_ := mK (bP (by repeat (first | (with_reducible first | exact HB.out | apply bA | apply bN | apply bD | refine bS ?_ GE254.out) | exact HB.out)) hb); have n2_ := mK (hbox); have n3_ := mK ((by rw [hg]; exact (bZ (by repeat (first | (with_reducible first | exact HB.out | apply bA | apply bN | apply bD | refine bS ?_ GE254.out) | exact HB.out))) : w.heap.size ≤ gb256)); have n4_ := mK ((by rw [hg]; exact (bZ (by repeat (first | (with_reducible first | exact HB.out | apply bA | apply bN | apply bD | refine bS ?_ GE254.out) | exact HB.out))) : w.heap.size ≤ gb256)); have n5_ := mK ((by rw [hg]; exact Nat.ne_of_lt (blk_lt (g := gb254) (o := .cells #[.int .u32 a0_0, .int .u32 a0_1, .int .u32 a0_2, .int .u32 a0_3, .int .u32 a0_4, .slice A0_5 l0_5.length c0_5, .slice A0_6 l0_6.length c0_6, .int .u32 a0_7, .int .u32 a0_8, .int .u32 a0_9, .int .u32 a0_10, .slice (some ad255) l0_11.length c0_11, .slice A0_12 l0_12.length c0_12, .slice A0_13 l0_13.length c0_13, .slice A0_14 l0_14.length c0_14] 51 (0, 0)) (by (with_reducible repeat (first | refine kN ?_ _ | refine kD ?_ | refine kA ?_ _)); exact BK254.out)) : gb254 ≠ gb256)); have n6_ := mK ((by rw [hg]; exact Nat.ne_of_gt (blk_lt (g := gb254) (o := .cells #[.int .u32 a0_0, .int .u32 a0_1, .int .u32 a0_2, .int .u32 a0_3, .int .u32 a0_4, .slice A0_5 l0_5.length c0_5, .slice A0_6 l0_6.length c0_6, .int .u32 a0_7, .int .u32 a0_8, .int .u32 a0_9, .int .u32 a0_10, .slice (some ad255) l0_11.length c0_11, .slice A0_12 l0_12.length c0_12, .slice A0_13 l0_13.length c0_13, .slice A0_14 l0_14.length c0_14] 51 (0, 0)) (by (with_reducible repeat (first | refine kN ?_ _ | refine kD ?_ | refine kA ?_ _)); exact BK254.out)) : gb256 ≠ gb254)); clear BK254; clear HB; have BK254 := n0_; have HB := n1_; have BK256 := n2_; have GW256 := n3_; have GE256 := n4_; have NB254_256 := n5_; have NB256_254 := n6_; clear n0_ n1_ n2_ n3_ n4_ n5_ n6_; clear hb hbox hg; have hnb40 := NB256_254.out; have hnc40 := NB254_256.out; obtain ⟨hcz41_0, hcz41_1, hcz41_2, hcz41_3, hcz41_4, hfz41_0, hfz41_1, hfz41_2, hfz41_3, hfz41_4⟩ := cf5 BK256.out))
       go_roundg k1
       case measure => have := HK1.out; omega
       case rel => exact ⟨(wrap64 (x12_1 + 1)), (by first | rfl | (simp; done) | (simp [*]; done)), H', ⟨by have := HK1.out; omega⟩, ⟨by (with_reducible repeat (first | refine kN ?_ _ | refine kD ?_ | refine kA ?_ _)); refine kR ?_ NB254_256.out _; (with_reducible repeat (first | refine kN ?_ _ | refine kD ?_ | refine kA ?_ _)); refine kR ?_ NB254_256.out _; (with_reducible repeat (first | refine kN ?_ _ | refine kD ?_ | refine kA ?_ _)); refine kR ?_ NB254_256.out _; (with_reducible repeat (first | refine kN ?_ _ | refine kD ?_ | refine kA ?_ _)); refine kR ?_ NB254_256.out _; (with_reducible repeat (first | refine kN ?_ _ | refine kD ?_ | refine kA ?_ _)); refine kR ?_ NB254_256.out _; (with_reducible repeat (first | refine kN ?_ _ | refine kD ?_ | refine kA ?_ _)); exact BK254.out⟩, ⟨by repeat (first | (with_reducible first | exact HB.out | apply bA | apply bN | apply bD | refine bS ?_ GE254.out | refine bS ?_ GE256.out) | exact HB.out)⟩⟩
     ·
      rw [if_neg c7] at H
      exact absurd H (by simp)
    ·
     rw [if_neg c6] at H
     exact absurd H (by simp)
   ·
    rw [if_neg c5] at H
    have c5b0 : decide (x12_1 < (l0_11.length : Int)) = false := decide_eq_false c5
    clear c5
    simp only [Option.some.injEq, Prod.mk.injEq] at H
    obtain ⟨rfl, rfl⟩ := H
    go_wp2
    go_ret2
    exact ⟨by first | rfl | (simp [errW_none, errW_some] <;> rfl) | (simp [*, errW_none, errW_some] <;> rfl), by repeat (first | (with_reducible first | exact HB.out | apply bA | apply bN | apply bD | refine bS ?_ GE254.out) | exact HB.out)⟩


/-! ### pascalineref02_Shape: function 49 -/
mutual
def pascalineref02_Shape.j0 : Nat → Int → Bool → Option (Int)
 | 0, _, _ => none
 | k + 1, x0, x8 => if x8 = true then (some 5) else (if x0 = 1 then (some 0) else (if x0 = 2 then (pascalineref02_Shape.j1 k x0 (x0 == 2)) else (if x0 = 20 then (pascalineref02_Shape.j1 k x0 (x0 == 20)) else (pascalineref02_Shape.j1 k x0 (x0 == 21)))))
def pascalineref02_Shape.j1 : Nat → Int → Bool → Option (Int)
 | 0, _, _ => none
 | k + 1, x9, x12 => if x12 = true then (some 1) else (if x9 = 3 then (pascalineref02_Shape.j2 k x9 (x9 == 3)) else (if x9 = 30 then (pascalineref02_Shape.j2 k x9 (x9 == 30)) else (pascalineref02_Shape.j2 k x9 (x9 == 33))))
def pascalineref02_Shape.j2 : Nat → Int → Bool → Option (Int)
 | 0, _, _ => none
 | k + 1, x9, x16 => if x16 = true then (some 2) else (if x9 = 5 then (pascalineref02_Shape.j3 k x9 (x9 == 5)) else (if x9 = 18 then (pascalineref02_Shape.j3 k x9 (x9 == 18)) else (pascalineref02_Shape.j3 k x9 (x9 == 19))))
def pascalineref02_Shape.j3 : Nat → Int → Bool → Option (Int)
 | 0, _, _ => none
 | k + 1, x9, x20 => if x20 = true then (some 3) else (if x9 = 4 then (pascalineref02_Shape.j4 k x9 (x9 == 4)) else (if x9 = 26 then (pascalineref02_Shape.j4 k x9 (x9 == 26)) else (pascalineref02_Shape.j4 k x9 (x9 == 34))))
def pascalineref02_Shape.j4 : Nat → Int → Bool → Option (Int)
 | 0, _, _ => none
 | k + 1, x9, x24 => if x24 = true then (some 4) else (if x9 = 24 then (pascalineref02_Shape.j5 k x9 (x9 == 24)) else (if x9 = 25 then (pascalineref02_Shape.j5 k x9 (x9 == 25)) else (if x9 = 27 then (pascalineref02_Shape.j5 k x9 (x9 == 27)) else (if x9 = 29 then (pascalineref02_Shape.j5 k x9 (x9 == 29)) else (if x9 = 31 then (pascalineref02_Shape.j5 k x9 (x9 == 31)) else (pascalineref02_Shape.j5 k x9 (x9 == 32)))))))
def pascalineref02_Shape.j5 : Nat → Int → Bool → Option (Int)
 | 0, _, _ => none
 | k + 1, x9, x28 => if x28 = true then (some 6) else (if x9 = 22 then (pascalineref02_Shape.j6 k x9 (x9 == 22)) else (pascalineref02_Shape.j6 k x9 (x9 == 23)))
def pascalineref02_Shape.j6 : Nat → Int → Bool → Option (Int)
 | 0, _, _ => none
 | k + 1, x9, x35 => if x35 = true then (some 7) else (if x9 = 28 then (some 8) else (some (-1)))
end
def pascalineref02_Shape.f (k : Nat) (a0 : Int) : Option (Int) := if a0 ≥ 6 then (pascalineref02_Shape.j0 k a0 (decide (a0 ≤ 17))) else (pascalineref02_Shape.j0 k a0 false)
theorem pascalineref02_Shape.mono_l : ∀ k, (∀ y0 y1, LeO (pascalineref02_Shape.j0 k y0 y1) (pascalineref02_Shape.j0 (k + 1) y0 y1)) ∧ (∀ y0 y1, LeO (pascalineref02_Shape.j1 k y0 y1) (pascalineref02_Shape.j1 (k + 1) y0 y1)) ∧ (∀ y0 y1, LeO (pascalineref02_Shape.j2 k y0 y1) (pascalineref02_Shape.j2 (k + 1) y0 y1)) ∧ (∀ y0 y1, LeO (pascalineref02_Shape.j3 k y0 y1) (pascalineref02_Shape.j3 (k + 1) y0 y1)) ∧ (∀ y0 y1, LeO (pascalineref02_Shape.j4 k y0 y1) (pascalineref02_Shape.j4 (k + 1) y0 y1)) ∧ (∀ y0 y1, LeO (pascalineref02_Shape.j5 k y0 y1) (pascalineref02_Shape.j5 (k + 1) y0 y1)) ∧ (∀ y0 y1, LeO (pascalineref02_Shape.j6 k y0 y1) (pascalineref02_Shape.j6 (k + 1) y0 y1))
 | 0 => ⟨fun _ _ r h => by simp [pascalineref02_Shape.j0] at h, fun _ _ r h => by simp [pascalineref02_Shape.j1] at h, fun _ _ r h => by simp [pascalineref02_Shape.j2] at h, fun _ _ r h => by simp [pascalineref02_Shape.j3] at h, fun _ _ r h => by simp [pascalineref02_Shape.j4] at h, fun _ _ r h => by simp [pascalineref02_Shape.j5] at h, fun _ _ r h => by simp [pascalineref02_Shape.j6] at h⟩
 | k + 1 => by
  obtain ⟨ih0, ih1, ih2, ih3, ih4, ih5, ih6⟩ := pascalineref02_Shape.mono_l k
  refine ⟨?_, ?_, ?_, ?_, ?_, ?_, ?_⟩
  ·
   intro y0 y1
   unfold pascalineref02_Shape.j0
   repeat' first
   | (with_reducible exact ih0 _ _)
   | (with_reducible exact ih1 _ _)
   | (with_reducible exact ih2 _ _)
   | (with_reducible exact ih3 _ _)
   | (with_reducible exact ih4 _ _)
   | (with_reducible exact ih5 _ _)
   | (with_reducible exact ih6 _ _)
   | (with_reducible exact LeO.refl _)
   | (with_reducible exact LeO.none _)
   | (with_reducible refine LeO.ite ?_ ?_)
   | (with_reducible refine LeO.bind ?_ (fun _ => ?_))
   | exact LeO.none _
   | refine LeO.ite ?_ ?_
   | refine LeO.bind ?_ (fun _ => ?_)
  ·
   intro y0 y1
   unfold pascalineref02_Shape.j1
   repeat' first
   | (with_reducible exact ih0 _ _)
   | (with_reducible exact ih1 _ _)
   | (with_reducible exact ih2 _ _)
   | (with_reducible exact ih3 _ _)
   | (with_reducible exact ih4 _ _)
   | (with_reducible exact ih5 _ _)
   | (with_reducible exact ih6 _ _)
   | (with_reducible exact LeO.refl _)
   | (with_reducible exact LeO.none _)
   | (with_reducible refine LeO.ite ?_ ?_)
   | (with_reducible refine LeO.bind ?_ (fun _ => ?_))
   | exact LeO.none _
   | refine LeO.ite ?_ ?_
   | refine LeO.bind ?_ (fun _ => ?_)
  ·
   intro y0 y1
   unfold pascalineref02_Shape.j2
   repeat' first
   | (with_reducible exact ih0 _ _)
   | (with_reducible exact ih1 _ _)
   | (with_reducible exact ih2 _ _)
   | (with_reducible exact ih3 _ _)
   | (with_reducible exact ih4 _ _)
   | (with_reducible exact ih5 _ _)
   | (with_reducible exact ih6 _ _)
   | (with_reducible exact LeO.refl _)
   | (with_reducible exact LeO.none _)
   | (with_reducible refine LeO.ite ?_ ?_)
   | (with_reducible refine LeO.bind ?_ (fun _ => ?_))
   | exact LeO.none _
   | refine LeO.ite ?_ ?_
   | refine LeO.bind ?_ (fun _ => ?_)
  ·
   intro y0 y1
   unfold pascalineref02_Shape.j3
   repeat' first
   | (with_reducible exact ih0 _ _)
   | (with_reducible exact ih1 _ _)
   | (with_reducible exact ih2 _ _)
   | (with_reducible exact ih3 _ _)
   | (with_reducible exact ih4 _ _)
   | (with_reducible exact ih5 _ _)
   | (with_reducible exact ih6 _ _)
   | (with_reducible exact LeO.refl _)
   | (with_reducible exact LeO.none _)
   | (with_reducible refine LeO.ite ?_ ?_)
   | (with_reducible refine LeO.bind ?_ (fun _ => ?_))
   | exact LeO.none _
   | refine LeO.ite ?_ ?_
   | refine LeO.bind ?_ (fun _ => ?_)
  ·
   intro y0 y1
   unfold pascalineref02_Shape.j4
   repeat' first
   | (with_reducible exact ih0 _ _)
   | (with_reducible exact ih1 _ _)
   | (with_reducible exact ih2 _ _)
   | (with_reducible exact ih3 _ _)
   | (with_reducible exact ih4 _ _)
   | (with_reducible exact ih5 _ _)
   | (with_reducible exact ih6 _ _)
   | (with_reducible exact LeO.refl _)
   | (with_reducible exact LeO.none _)
   | (with_reducible refine LeO.ite ?_ ?_)
   | (with_reducible refine LeO.bind ?_ (fun _ => ?_))
   | exact LeO.none _
   | refine LeO.ite ?_ ?_
   | refine LeO.bind ?_ (fun _ => ?_)
  ·
   intro y0 y1
   unfold pascalineref02_Shape.j5
   repeat' first
   | (with_reducible exact ih0 _ _)
   | (with_reducible exact ih1 _ _)
   | (with_reducible exact ih2 _ _)
   | (with_reducible exact ih3 _ _)
   | (with_reducible exact ih4 _ _)
   | (with_reducible exact ih5 _ _)
   | (with_reducible exact ih6 _ _)
   | (with_reducible exact LeO.refl _)
   | (with_reducible exact LeO.none _)
   | (with_reducible refine LeO.ite ?_ ?_)
   | (with_reducible refine LeO.bind ?_ (fun _ => ?_))
   | exact LeO.none _
   | refine LeO.ite ?_ ?_
   | refine LeO.bind ?_ (fun _ => ?_)
  ·
   intro y0 y1
   unfold pascalineref02_Shape.j6
   repeat' first
   | (with_reducible exact ih0 _ _)
   | (with_reducible exact ih1 _ _)
   | (with_reducible exact ih2 _ _)
   | (with_reducible exact ih3 _ _)
   | (with_reducible exact ih4 _ _)
   | (with_reducible exact ih5 _ _)
   | (with_reducible exact ih6 _ _)
   | (with_reducible exact LeO.refl _)
   | (with_reducible exact LeO.none _)
   | (with_reducible refine LeO.ite ?_ ?_)
   | (with_reducible refine LeO.bind ?_ (fun _ => ?_))
   | exact LeO.none _
   | refine LeO.ite ?_ ?_
   | refine LeO.bind ?_ (fun _ => ?_)
theorem pascalineref02_Shape.mono : ∀ a0 k, LeO (pascalineref02_Shape.f k a0) (pascalineref02_Shape.f (k + 1) a0) := by
 intro a0 k
 obtain ⟨ih0, ih1, ih2, ih3, ih4, ih5, ih6⟩ := pascalineref02_Shape.mono_l k
 unfold pascalineref02_Shape.f
 repeat' first
  | (with_reducible exact ih0 _ _)
  | (with_reducible exact ih1 _ _)
  | (with_reducible exact ih2 _ _)
  | (with_reducible exact ih3 _ _)
  | (with_reducible exact ih4 _ _)
  | (with_reducible exact ih5 _ _)
  | (with_reducible exact ih6 _ _)
  | (with_reducible exact LeO.refl _)
  | (with_reducible exact LeO.none _)
  | (with_reducible refine LeO.ite ?_ ?_)
  | (with_reducible refine LeO.bind ?_ (fun _ => ?_))
  | exact LeO.none _
  | refine LeO.ite ?_ ?_
  | refine LeO.bind ?_ (fun _ => ?_)
set_option maxHeartbeats 8000000 in
set_option maxRecDepth 100000 in
theorem pascalineref02_Shape.calls (k : Nat) (a0 : Int) (r : Int) (w : World) (h : pascalineref02_Shape.f k a0 = some r) :
 Calls Try.prog 49 #[.int .i64 a0] w fun e w' => e = .returned (.int .i64 r) ∧ Drawn0 w w' := by
 have H : (if a0 ≥ 6 then (pascalineref02_Shape.j0 k a0 (decide (a0 ≤ 17))) else (pascalineref02_Shape.j0 k a0 false)) = some r := h
 clear h
 have HC2 := mK H
 clear H
 go_enter Try.func49, Try.ntmps49
 go_upto_region 1 with (fail)
 go_cut [8] (fun v8 wc => ∃ (kq : Nat) (x8_1 : Bool), v8 = .bool x8_1 ∧ Aside0 (pascalineref02_Shape.j0 kq a0 x8_1 = some r) ∧ Aside0 (kq ≤ k) ∧ Drawn0 w wc)
 case first =>
  have H := HC2.out
  clear HC2
  by_cases c3 : a0 ≥ 6
  ·
   rw [if_pos c3] at H
   have c3b0 : decide (6 ≤ a0) = true := decide_eq_true c3
   clear c3
   (first | rw [c3b0] | (simp only [i64_w, i32_w]; rw [c3b0]) | skip)
   have H' := mK H
   clear H
   go_wp2
   go_meet
   case rel => exact ⟨_, (decide (a0 ≤ 17)), (by first | rfl | (simp; done) | (simp [*]; done)), H', ⟨by first | omega | exact Nat.le_refl _⟩, by repeat (first | exact Drawn0.refl _ | apply Drawn0.step)⟩
  ·
   rw [if_neg c3] at H
   have c3b0 : decide (6 ≤ a0) = false := decide_eq_false c3
   clear c3
   (first | rw [c3b0] | (simp only [i64_w, i32_w]; rw [c3b0]) | skip)
   have H' := mK H
   clear H
   go_wp2
   go_meet
   case rel => exact ⟨_, (false), (by first | rfl | (simp; done) | (simp [*]; done)), H', ⟨by first | omega | exact Nat.le_refl _⟩, by repeat (first | exact Drawn0.refl _ | apply Drawn0.step)⟩
 case rest =>
  clear HC2
  obtain ⟨kq, x8_1, rfl, HA, HJ1, ⟨mc1, rfl⟩⟩ := hcut
  cases kq with
  | zero => exact absurd HA.out (by simp [pascalineref02_Shape.j0])
  | succ kj1 =>
   have H := HA.out
   clear HA
   simp only [pascalineref02_Shape.j0] at H
   by_cases c4 : x8_1 = true
   ·
    subst c4
    have H1 : (some 5) = some r := by rw [if_pos rfl] at H; exact H
    clear H
    have H := H1
    clear H1
    obtain rfl := Option.some.inj H
    go_wp2
    go_ret
    exact ⟨by first | rfl | (simp; done) | (simp [*]; done), by repeat (first | exact Drawn0.refl _ | apply Drawn0.step)⟩
   ·
    replace c4 := Bool.eq_false_iff.mpr c4
    subst c4
    have H1 : (if a0 = 1 then (some 0) else (if a0 = 2 then (pascalineref02_Shape.j1 kj1 a0 (a0 == 2)) else (if a0 = 20 then (pascalineref02_Shape.j1 kj1 a0 (a0 == 20)) else (pascalineref02_Shape.j1 kj1 a0 (a0 == 21))))) = some r := by rw [if_neg (show ¬ (false = true) by decide)] at H; exact H
    clear H
    have H := H1
    clear H1
    by_cases c5 : a0 = 1
    ·
     rw [if_pos c5] at H
     have c5b0 : (a0 == 1) = true := beq_iff_eq.mpr c5
     have c5b1 : (a0 != 1) = false := bR c5
     clear c5
     obtain rfl := Option.some.inj H
     go_wp2
     go_ret
     exact ⟨by first | rfl | (simp; done) | (simp [*]; done), by repeat (first | exact Drawn0.refl _ | apply Drawn0.step)⟩
    ·
     rw [if_neg c5] at H
     have c5b0 : (a0 == 1) = false := bQ c5
     have c5b1 : (a0 != 1) = true := bne_iff_ne.mpr c5
     have HC6 := mK H
     clear H
     go_upto_if 12 with (fail)
     go_cut [12] (fun v12 wc => ∃ (kq : Nat) (x12_5 : Bool), v12 = .bool x12_5 ∧ Aside0 (pascalineref02_Shape.j1 kq a0 x12_5 = some r) ∧ Aside0 (kq ≤ kj1) ∧ Drawn0 w wc)
     case first =>
      have H := HC6.out
      clear HC6
      by_cases c7 : a0 = 2
      ·
       rw [if_pos c7] at H
       have c7b0 : (a0 == 2) = true := beq_iff_eq.mpr c7
       have c7b1 : (a0 != 2) = false := bR c7
       clear c7
       (first | rw [c7b0] | (simp only [i64_w, i32_w]; rw [c7b0]) | skip)
       have H' := mK H
       clear H
       go_wp2
       go_meet
       case rel => exact ⟨_, ((a0 == 2)), (by first | rfl | (simp; done) | (simp [*]; done)), H', ⟨by have := HJ1.out; first | omega | exact Nat.le_refl _⟩, by repeat (first | exact Drawn0.refl _ | apply Drawn0.step)⟩
      ·
       rw [if_neg c7] at H
       have c7b0 : (a0 == 2) = false := bQ c7
       have c7b1 : (a0 != 2) = true := bne_iff_ne.mpr c7
       (first | rw [c7b0] | (simp only [i64_w, i32_w]; rw [c7b0]) | skip)
       by_cases c8 : a0 = 20
       ·
        rw [if_pos c8] at H
        have c8b0 : (a0 == 20) = true := beq_iff_eq.mpr c8
        have c8b1 : (a0 != 20) = false := bR c8
        clear c8
        have H' := mK H
        clear H
        go_wp2
        go_meet
        case rel => exact ⟨_, ((a0 == 20)), (by first | rfl | (simp; done) | (simp [*]; done)), H', ⟨by have := HJ1.out; first | omega | exact Nat.le_refl _⟩, by repeat (first | exact Drawn0.refl _ | apply Drawn0.step)⟩
       ·
        rw [if_neg c8] at H
        have c8b0 : (a0 == 20) = false := bQ c8
        have c8b1 : (a0 != 20) = true := bne_iff_ne.mpr c8
        have H' := mK H
        clear H
        go_wp2
        go_meet
        case rel => exact ⟨_, ((a0 == 21)), (by first | rfl | (simp; done) | (simp [*]; done)), H', ⟨by have := HJ1.out; first | omega | exact Nat.le_refl _⟩, by repeat (first | exact Drawn0.refl _ | apply Drawn0.step)⟩
     case rest =>
      clear HC6
      (try clear c4); (try clear c5); (try clear c5b0); (try clear c5b1)
      obtain ⟨kq, x12_5, rfl, HA, HJ5, ⟨mc5, rfl⟩⟩ := hcut
      cases kq with
      | zero => exact absurd HA.out (by simp [pascalineref02_Shape.j1])
      | succ kj5 =>
       have H := HA.out
       clear HA
       simp only [pascalineref02_Shape.j1] at H
       by_cases c9 : x12_5 = true
       ·
        subst c9
        have H1 : (some 1) = some r := by rw [if_pos rfl] at H; exact H
        clear H
        have H := H1
        clear H1
        obtain rfl := Option.some.inj H
        go_wp2
        go_ret
        exact ⟨by first | rfl | (simp; done) | (simp [*]; done), by repeat (first | exact Drawn0.refl _ | apply Drawn0.step)⟩
       ·
        replace c9 := Bool.eq_false_iff.mpr c9
        subst c9
        have H1 : (if a0 = 3 then (pascalineref02_Shape.j2 kj5 a0 (a0 == 3)) else (if a0 = 30 then (pascalineref02_Shape.j2 kj5 a0 (a0 == 30)) else (pascalineref02_Shape.j2 kj5 a0 (a0 == 33)))) = some r := by rw [if_neg (show ¬ (false = true) by decide)] at H; exact H
        clear H
        have H := H1
        clear H1
        have HC10 := mK H
        clear H
        go_upto_if 16 with (fail)
        go_cut [16] (fun v16 wc => ∃ (kq : Nat) (x16_9 : Bool), v16 = .bool x16_9 ∧ Aside0 (pascalineref02_Shape.j2 kq a0 x16_9 = some r) ∧ Aside0 (kq ≤ kj5) ∧ Drawn0 w wc)
        case first =>
         have H := HC10.out
         clear HC10
         by_cases c11 : a0 = 3
         ·
          rw [if_pos c11] at H
          have c11b0 : (a0 == 3) = true := beq_iff_eq.mpr c11
          have c11b1 : (a0 != 3) = false := bR c11
          clear c11
          (first | rw [c11b0] | (simp only [i64_w, i32_w]; rw [c11b0]) | skip)
          have H' := mK H
          clear H
          go_wp2
          go_meet
          case rel => exact ⟨_, ((a0 == 3)), (by first | rfl | (simp; done) | (simp [*]; done)), H', ⟨by have := HJ1.out; have := HJ5.out; first | omega | exact Nat.le_refl _⟩, by repeat (first | exact Drawn0.refl _ | apply Drawn0.step)⟩
         ·
          rw [if_neg c11] at H
          have c11b0 : (a0 == 3) = false := bQ c11
          have c11b1 : (a0 != 3) = true := bne_iff_ne.mpr c11
          (first | rw [c11b0] | (simp only [i64_w, i32_w]; rw [c11b0]) | skip)
          by_cases c12 : a0 = 30
          ·
           rw [if_pos c12] at H
           have c12b0 : (a0 == 30) = true := beq_iff_eq.mpr c12
           have c12b1 : (a0 != 30) = false := bR c12
           clear c12
           have H' := mK H
           clear H
           go_wp2
           go_meet
           case rel => exact ⟨_, ((a0 == 30)), (by first | rfl | (simp; done) | (simp [*]; done)), H', ⟨by have := HJ1.out; have := HJ5.out; first | omega | exact Nat.le_refl _⟩, by repeat (first | exact Drawn0.refl _ | apply Drawn0.step)⟩
          ·
           rw [if_neg c12] at H
           have c12b0 : (a0 == 30) = false := bQ c12
           have c12b1 : (a0 != 30) = true := bne_iff_ne.mpr c12
           have H' := mK H
           clear H
           go_wp2
           go_meet
           case rel => exact ⟨_, ((a0 == 33)), (by first | rfl | (simp; done) | (simp [*]; done)), H', ⟨by have := HJ1.out; have := HJ5.out; first | omega | exact Nat.le_refl _⟩, by repeat (first | exact Drawn0.refl _ | apply Drawn0.step)⟩
        case rest =>
         clear HC10
         (try clear c4); (try clear c5); (try clear c5b0); (try clear c5b1); (try clear c9)
         obtain ⟨kq, x16_9, rfl, HA, HJ9, ⟨mc9, rfl⟩⟩ := hcut
         cases kq with
         | zero => exact absurd HA.out (by simp [pascalineref02_Shape.j2])
         | succ kj9 =>
          have H := HA.out
          clear HA
          simp only [pascalineref02_Shape.j2] at H
          by_cases c13 : x16_9 = true
          ·
           subst c13
           have H1 : (some 2) = some r := by rw [if_pos rfl] at H; exact H
           clear H
           have H := H1
           clear H1
           obtain rfl := Option.some.inj H
           go_wp2
           go_ret
           exact ⟨by first | rfl | (simp; done) | (simp [*]; done), by repeat (first | exact Drawn0.refl _ | apply Drawn0.step)⟩
          ·
           replace c13 := Bool.eq_false_iff.mpr c13
           subst c13
           have H1 : (if a0 = 5 then (pascalineref02_Shape.j3 kj9 a0 (a0 == 5)) else (if a0 = 18 then (pascalineref02_Shape.j3 kj9 a0 (a0 == 18)) else (pascalineref02_Shape.j3 kj9 a0 (a0 == 19)))) = some r := by rw [if_neg (show ¬ (false = true) by decide)] at H; exact H
           clear H
           have H := H1
           clear H1
           have HC14 := mK H
           clear H
           go_upto_if 20 with (fail)
           go_cut [20] (fun v20 wc => ∃ (kq : Nat) (x20_13 : Bool), v20 = .bool x20_13 ∧ Aside0 (pascalineref02_Shape.j3 kq a0 x20_13 = some r) ∧ Aside0 (kq ≤ kj9) ∧ Drawn0 w wc)
           case first =>
            have H := HC14.out
            clear HC14
            by_cases c15 : a0 = 5
            ·
             rw [if_pos c15] at H
             have c15b0 : (a0 == 5) = true := beq_iff_eq.mpr c15
             have c15b1 : (a0 != 5) = false := bR c15
             clear c15
             (first | rw [c15b0] | (simp only [i64_w, i32_w]; rw [c15b0]) | skip)
             have H' := mK H
             clear H
             go_wp2
             go_meet
             case rel => exact ⟨_, ((a0 == 5)), (by first | rfl | (simp; done) | (simp [*]; done)), H', ⟨by have := HJ1.out; have := HJ5.out; have := HJ9.out; first | omega | exact Nat.le_refl _⟩, by repeat (first | exact Drawn0.refl _ | apply Drawn0.step)⟩
            ·
             rw [if_neg c15] at H
             have c15b0 : (a0 == 5) = false := bQ c15
             have c15b1 : (a0 != 5) = true := bne_iff_ne.mpr c15
             (first | rw [c15b0] | (simp only [i64_w, i32_w]; rw [c15b0]) | skip)
             by_cases c16 : a0 = 18
             ·
              rw [if_pos c16] at H
              have c16b0 : (a0 == 18) = true := beq_iff_eq.mpr c16
              have c16b1 : (a0 != 18) = false := bR c16
              clear c16
              have H' := mK H
              clear H
              go_wp2
              go_meet
              case rel => exact ⟨_, ((a0 == 18)), (by first | rfl | (simp; done) | (simp [*]; done)), H', ⟨by have := HJ1.out; have := HJ5.out; have := HJ9.out; first | omega | exact Nat.le_refl _⟩, by repeat (first | exact Drawn0.refl _ | apply Drawn0.step)⟩
             ·
              rw [if_neg c16] at H
              have c16b0 : (a0 == 18) = false := bQ c16
              have c16b1 : (a0 != 18) = true := bne_iff_ne.mpr c16
              have H' := mK H
              clear H
              go_wp2
              go_meet
              case rel => exact ⟨_, ((a0 == 19)), (by first | rfl | (simp; done) | (simp [*]; done)), H', ⟨by have := HJ1.out; have := HJ5.out; have := HJ9.out; first | omega | exact Nat.le_refl _⟩, by repeat (first | exact Drawn0.refl _ | apply Drawn0.step)⟩
           case rest =>
            clear HC14
            (try clear c4); (try clear c5); (try clear c5b0); (try clear c5b1); (try clear c9); (try clear c13)
            obtain ⟨kq, x20_13, rfl, HA, HJ13, ⟨mc13, rfl⟩⟩ := hcut
            cases kq with
            | zero => exact absurd HA.out (by simp [pascalineref02_Shape.j3])
            | succ kj13 =>
             have H := HA.out
             clear HA
             simp only [pascalineref02_Shape.j3] at H
             by_cases c17 : x20_13 = true
             ·
              subst c17
              have H1 : (some 3) = some r := by rw [if_pos rfl] at H; exact H
              clear H
              have H := H1
              clear H1
              obtain rfl := Option.some.inj H
              go_wp2
              go_ret
              exact ⟨by first | rfl | (simp; done) | (simp [*]; done), by repeat (first | exact Drawn0.refl _ | apply Drawn0.step)⟩
             ·
              replace c17 := Bool.eq_false_iff.mpr c17
              subst c17
              have H1 : (if a0 = 4 then (pascalineref02_Shape.j4 kj13 a0 (a0 == 4)) else (if a0 = 26 then (pascalineref02_Shape.j4 kj13 a0 (a0 == 26)) else (pascalineref02_Shape.j4 kj13 a0 (a0 == 34)))) = some r := by rw [if_neg (show ¬ (false = true) by decide)] at H; exact H
              clear H
              have H := H1
              clear H1
              have HC18 := mK H
              clear H
              go_upto_if 24 with (fail)
              go_cut [24] (fun v24 wc => ∃ (kq : Nat) (x24_17 : Bool), v24 = .bool x24_17 ∧ Aside0 (pascalineref02_Shape.j4 kq a0 x24_17 = some r) ∧ Aside0 (kq ≤ kj13) ∧ Drawn0 w wc)
              case first =>
               have H := HC18.out
               clear HC18
               by_cases c19 : a0 = 4
               ·
                rw [if_pos c19] at H
                have c19b0 : (a0 == 4) = true := beq_iff_eq.mpr c19
                have c19b1 : (a0 != 4) = false := bR c19
                clear c19
                (first | rw [c19b0] | (simp only [i64_w, i32_w]; rw [c19b0]) | skip)
                have H' := mK H
                clear H
                go_wp2
                go_meet
                case rel => exact ⟨_, ((a0 == 4)), (by first | rfl | (simp; done) | (simp [*]; done)), H', ⟨by have := HJ1.out; have := HJ5.out; have := HJ9.out; have := HJ13.out; first | omega | exact Nat.le_refl _⟩, by repeat (first | exact Drawn0.refl _ | apply Drawn0.step)⟩
               ·
                rw [if_neg c19] at H
                have c19b0 : (a0 == 4) = false := bQ c19
                have c19b1 : (a0 != 4) = true := bne_iff_ne.mpr c19
                (first | rw [c19b0] | (simp only [i64_w, i32_w]; rw [c19b0]) | skip)
                by_cases c20 : a0 = 26
                ·
                 rw [if_pos c20] at H
                 have c20b0 : (a0 == 26) = true := beq_iff_eq.mpr c20
                 have c20b1 : (a0 != 26) = false := bR c20
                 clear c20
                 have H' := mK H
                 clear H
                 go_wp2
                 go_meet
                 case rel => exact ⟨_, ((a0 == 26)), (by first | rfl | (simp; done) | (simp [*]; done)), H', ⟨by have := HJ1.out; have := HJ5.out; have := HJ9.out; have := HJ13.out; first | omega | exact Nat.le_refl _⟩, by repeat (first | exact Drawn0.refl _ | apply Drawn0.step)⟩
                ·
                 rw [if_neg c20] at H
                 have c20b0 : (a0 == 26) = false := bQ c20
                 have c20b1 : (a0 != 26) = true := bne_iff_ne.mpr c20
                 have H' := mK H
                 clear H
                 go_wp2
                 go_meet
                 case rel => exact ⟨_, ((a0 == 34)), (by first | rfl | (simp; done) | (simp [*]; done)), H', ⟨by have := HJ1.out; have := HJ5.out; have := HJ9.out; have := HJ13.out; first | omega | exact Nat.le_refl _⟩, by repeat (first | exact Drawn0.refl _ | apply Drawn0.step)⟩
              case rest =>
               clear HC18
               (try clear c4); (try clear c5); (try clear c5b0); (try clear c5b1); (try clear c9); (try clear c13); (try clear c17)
               obtain ⟨kq, x24_17, rfl, HA, HJ17, ⟨mc17, rfl⟩⟩ := hcut
               cases kq with
               | zero => exact absurd HA.out (by simp [pascalineref02_Shape.j4])
               | succ kj17 =>
                have H := HA.out
                clear HA
                simp only [pascalineref02_Shape.j4] at H
                by_cases c21 : x24_17 = true
                ·
                 subst c21
                 have H1 : (some 4) = some r := by rw [if_pos rfl] at H; exact H
                 clear H
                 have H := H1
                 clear H1
                 obtain rfl := Option.some.inj H
                 go_wp2
                 go_ret
                 exact ⟨by first | rfl | (simp; done) | (simp [*]; done), by repeat (first | exact Drawn0.refl _ | apply Drawn0.step)⟩
                ·
                 replace c21 := Bool.eq_false_iff.mpr c21
                 subst c21
                 have H1 : (if a0 = 24 then (pascalineref02_Shape.j5 kj17 a0 (a0 == 24)) else (if a0 = 25 then (pascalineref02_Shape.j5 kj17 a0 (a0 == 25)) else (if a0 = 27 then (pascalineref02_Shape.j5 kj17 a0 (a0 == 27)) else (if a0 = 29 then (pascalineref02_Shape.j5 kj17 a0 (a0 == 29)) else (if a0 = 31 then (pascalineref02_Shape.j5 kj17 a0 (a0 == 31)) else (pascalineref02_Shape.j5 kj17 a0 (a0 == 32))))))) = some r := by rw [if_neg (show ¬ (false = true) by decide)] at H; exact H
                 clear H
                 have H := H1
                 clear H1
                 have HC22 := mK H
                 clear H
                 go_upto_if 28 with (fail)
                 go_cut [28] (fun v28 wc => ∃ (kq : Nat) (x28_21 : Bool), v28 = .bool x28_21 ∧ Aside0 (pascalineref02_Shape.j5 kq a0 x28_21 = some r) ∧ Aside0 (kq ≤ kj17) ∧ Drawn0 w wc)
                 case first =>
                  have H := HC22.out
                  clear HC22
                  by_cases c23 : a0 = 24
                  ·
                   rw [if_pos c23] at H
                   have c23b0 : (a0 == 24) = true := beq_iff_eq.mpr c23
                   have c23b1 : (a0 != 24) = false := bR c23
                   clear c23
                   (first | rw [c23b0] | (simp only [i64_w, i32_w]; rw [c23b0]) | skip)
                   have H' := mK H
                   clear H
                   go_wp2
                   go_meet
                   case rel => exact ⟨_, ((a0 == 24)), (by first | rfl | (simp; done) | (simp [*]; done)), H', ⟨by have := HJ1.out; have := HJ5.out; have := HJ9.out; have := HJ13.out; have := HJ17.out; first | omega | exact Nat.le_refl _⟩, by repeat (first | exact Drawn0.refl _ | apply Drawn0.step)⟩
                  ·
                   rw [if_neg c23] at H
                   have c23b0 : (a0 == 24) = false := bQ c23
                   have c23b1 : (a0 != 24) = true := bne_iff_ne.mpr c23
                   (first | rw [c23b0] | (simp only [i64_w, i32_w]; rw [c23b0]) | skip)
                   by_cases c24 : a0 = 25
                   ·
                    rw [if_pos c24] at H
                    have c24b0 : (a0 == 25) = true := beq_iff_eq.mpr c24
                    have c24b1 : (a0 != 25) = false := bR c24
                    clear c24
                    have H' := mK H
                    clear H
                    go_wp2
                    go_meet
                    case rel => exact ⟨_, ((a0 == 25)), (by first | rfl | (simp; done) | (simp [*]; done)), H', ⟨by have := HJ1.out; have := HJ5.out; have := HJ9.out; have := HJ13.out; have := HJ17.out; first | omega | exact Nat.le_refl _⟩, by repeat (first | exact Drawn0.refl _ | apply Drawn0.step)⟩
                   ·
                    rw [if_neg c24] at H
                    have c24b0 : (a0 == 25) = false := bQ c24
                    have c24b1 : (a0 != 25) = true := bne_iff_ne.mpr c24
                    by_cases c25 : a0 = 27
                    ·
                     rw [if_pos c25] at H
                     have c25b0 : (a0 == 27) = true := beq_iff_eq.mpr c25
                     have c25b1 : (a0 != 27) = false := bR c25
                     clear c25
                     have H' := mK H
                     clear H
                     go_wp2
                     go_meet
                     case rel => exact ⟨_, ((a0 == 27)), (by first | rfl | (simp; done) | (simp [*]; done)), H', ⟨by have := HJ1.out; have := HJ5.out; have := HJ9.out; have := HJ13.out; have := HJ17.out; first | omega | exact Nat.le_refl _⟩, by repeat (first | exact Drawn0.refl _ | apply Drawn0.step)⟩
                    ·
                     rw [if_neg c25] at H
                     have c25b0 : (a0 == 27) = false := bQ c25
                     have c25b1 : (a0 != 27) = true := bne_iff_ne.mpr c25
                     by_cases c26 : a0 = 29
                     ·
                      rw [if_pos c26] at H
                      have c26b0 : (a0 == 29) = true := beq_iff_eq.mpr c26
                      have c26b1 : (a0 != 29) = false := bR c26
                      clear c26
                      have H' := mK H
                      clear H
                      go_wp2
                      go_meet
                      case rel => exact ⟨_, ((a0 == 29)), (by first | rfl | (simp; done) | (simp [*]; done)), H', ⟨by have := HJ1.out; have := HJ5.out; have := HJ9.out; have := HJ13.out; have := HJ17.out; first | omega | exact Nat.le_refl _⟩, by repeat (first | exact Drawn0.refl _ | apply Drawn0.step)⟩
                     ·
                      rw [if_neg c26] at H
                      have c26b0 : (a0 == 29) = false := bQ c26
                      have c26b1 : (a0 != 29) = true := bne_iff_ne.mpr c26
                      by_cases c27 : a0 = 31
                      ·
                       rw [if_pos c27] at H
                       have c27b0 : (a0 == 31) = true := beq_iff_eq.mpr c27
                       have c27b1 : (a0 != 31) = false := bR c27
                       clear c27
                       have H' := mK H
                       clear H
                       go_wp2
                       go_meet
                       case rel => exact ⟨_, ((a0 == 31)), (by first | rfl | (simp; done) | (simp [*]; done)), H', ⟨by have := HJ1.out; have := HJ5.out; have := HJ9.out; have := HJ13.out; have := HJ17.out; first | omega | exact Nat.le_refl _⟩, by repeat (first | exact Drawn0.refl _ | apply Drawn0.step)⟩
                      ·
                       rw [if_neg c27] at H
                       have c27b0 : (a0 == 31) = false := bQ c27
                       have c27b1 : (a0 != 31) = true := bne_iff_ne.mpr c27
                       have H' := mK H
                       clear H
                       go_wp2
                       go_meet
                       case rel => exact ⟨_, ((a0 == 32)), (by first | rfl | (simp; done) | (simp [*]; done)), H', ⟨by have := HJ1.out; have := HJ5.out; have := HJ9.out; have := HJ13.out; have := HJ17.out; first | omega | exact Nat.le_refl _⟩, by repeat (first | exact Drawn0.refl _ | apply Drawn0.step)⟩
                 case rest =>
                  clear HC22
                  (try clear c4); (try clear c5); (try clear c5b0); (try clear c5b1); (try clear c9); (try clear c13); (try clear c17); (try clear c21)
                  obtain ⟨kq, x28_21, rfl, HA, HJ21, ⟨mc21, rfl⟩⟩ := hcut
                  cases kq with
                  | zero => exact absurd HA.out (by simp [pascalineref02_Shape.j5])
                  | succ kj21 =>
                   have H := HA.out
                   clear HA
                   simp only [pascalineref02_Shape.j5] at H
                   by_cases c28 : x28_21 = true
                   ·
                    subst c28
                    have H1 : (some 6) = some r := by rw [if_pos rfl] at H; exact H
                    clear H
                    have H := H1
                    clear H1
                    obtain rfl := Option.some.inj H
                    go_wp2
                    go_ret
                    exact ⟨by first | rfl | (simp; done) | (simp [*]; done), by repeat (first | exact Drawn0.refl _ | apply Drawn0.step)⟩
                   ·
                    replace c28 := Bool.eq_false_iff.mpr c28
                    subst c28
                    have H1 : (if a0 = 22 then (pascalineref02_Shape.j6 kj21 a0 (a0 == 22)) else (pascalineref02_Shape.j6 kj21 a0 (a0 == 23))) = some r := by rw [if_neg (show ¬ (false = true) by decide)] at H; exact H
                    clear H
                    have H := H1
                    clear H1
                    have HC29 := mK H
                    clear H
                    go_upto_if 35 with (fail)
                    go_cut [35] (fun v35 wc => ∃ (kq : Nat) (x35_28 : Bool), v35 = .bool x35_28 ∧ Aside0 (pascalineref02_Shape.j6 kq a0 x35_28 = some r) ∧ Aside0 (kq ≤ kj21) ∧ Drawn0 w wc)
                    case first =>
                     have H := HC29.out
                     clear HC29
                     by_cases c30 : a0 = 22
                     ·
                      rw [if_pos c30] at H
                      have c30b0 : (a0 == 22) = true := beq_iff_eq.mpr c30
                      have c30b1 : (a0 != 22) = false := bR c30
                      clear c30
                      (first | rw [c30b0] | (simp only [i64_w, i32_w]; rw [c30b0]) | skip)
                      have H' := mK H
                      clear H
                      go_wp2
                      go_meet
                      case rel => exact ⟨_, ((a0 == 22)), (by first | rfl | (simp; done) | (simp [*]; done)), H', ⟨by have := HJ1.out; have := HJ5.out; have := HJ9.out; have := HJ13.out; have := HJ17.out; have := HJ21.out; first | omega | exact Nat.le_refl _⟩, by repeat (first | exact Drawn0.refl _ | apply Drawn0.step)⟩
                     ·
                      rw [if_neg c30] at H
                      have c30b0 : (a0 == 22) = false := bQ c30
                      have c30b1 : (a0 != 22) = true := bne_iff_ne.mpr c30
                      (first | rw [c30b0] | (simp only [i64_w, i32_w]; rw [c30b0]) | skip)
                      have H' := mK H
                      clear H
                      go_wp2
                      go_meet
                      case rel => exact ⟨_, ((a0 == 23)), (by first | rfl | (simp; done) | (simp [*]; done)), H', ⟨by have := HJ1.out; have := HJ5.out; have := HJ9.out; have := HJ13.out; have := HJ17.out; have := HJ21.out; first | omega | exact Nat.le_refl _⟩, by repeat (first | exact Drawn0.refl _ | apply Drawn0.step)⟩
                    case rest =>
                     clear HC29
                     (try clear c4); (try clear c5); (try clear c5b0); (try clear c5b1); (try clear c9); (try clear c13); (try clear c17); (try clear c21); (try clear c28)
                     obtain ⟨kq, x35_28, rfl, HA, HJ28, ⟨mc28, rfl⟩⟩ := hcut
                     cases kq with
                     | zero => exact absurd HA.out (by simp [pascalineref02_Shape.j6])
                     | succ kj28 =>
                      have H := HA.out
                      clear HA
                      simp only [pascalineref02_Shape.j6] at H
                      by_cases c31 : x35_28 = true
                      ·
                       subst c31
                       have H1 : (some 7) = some r := by rw [if_pos rfl] at H; exact H
                       clear H
                       have H := H1
                       clear H1
                       obtain rfl := Option.some.inj H
                       go_wp2
                       go_ret
                       exact ⟨by first | rfl | (simp; done) | (simp [*]; done), by repeat (first | exact Drawn0.refl _ | apply Drawn0.step)⟩
                      ·
                       replace c31 := Bool.eq_false_iff.mpr c31
                       subst c31
                       have H1 : (if a0 = 28 then (some 8) else (some (-1))) = some r := by rw [if_neg (show ¬ (false = true) by decide)] at H; exact H
                       clear H
                       have H := H1
                       clear H1
                       by_cases c32 : a0 = 28
                       ·
                        rw [if_pos c32] at H
                        have c32b0 : (a0 == 28) = true := beq_iff_eq.mpr c32
                        have c32b1 : (a0 != 28) = false := bR c32
                        clear c32
                        obtain rfl := Option.some.inj H
                        go_wp2
                        go_ret
                        exact ⟨by first | rfl | (simp; done) | (simp [*]; done), by repeat (first | exact Drawn0.refl _ | apply Drawn0.step)⟩
                       ·
                        rw [if_neg c32] at H
                        have c32b0 : (a0 == 28) = false := bQ c32
                        have c32b1 : (a0 != 28) = true := bne_iff_ne.mpr c32
                        obtain rfl := Option.some.inj H
                        go_wp2
                        go_ret
                        exact ⟨by first | rfl | (simp; done) | (simp [*]; done), by repeat (first | exact Drawn0.refl _ | apply Drawn0.step)⟩


/-! ### pascalineref02_has: function 50 -/
def pascalineref02_has.f (a0 : Int) : Option (Bool × Bool × Bool) := if a0 ≥ 1 then (if a0 ≥ 3 then (some (decide (a0 ≤ 6), decide (a0 ≤ 5), (a0 == 5))) else (some (decide (a0 ≤ 6), false, (a0 == 5)))) else (if a0 ≥ 3 then (some (false, decide (a0 ≤ 5), (a0 == 5))) else (some (false, false, (a0 == 5))))
set_option maxHeartbeats 8000000 in
set_option maxRecDepth 100000 in
theorem pascalineref02_has.calls (a0 : Int) (r1 : Bool) (r2 : Bool) (r3 : Bool) (w : World) (h : pascalineref02_has.f a0 = some (r1, r2, r3)) :
 Calls Try.prog 50 #[.int .i64 a0] w fun e w' => e = .returned (.tuple #[.bool r1, .bool r2, .bool r3]) ∧ Drawn0 w w' := by
 have H : (if a0 ≥ 1 then (if a0 ≥ 3 then (some (decide (a0 ≤ 6), decide (a0 ≤ 5), (a0 == 5))) else (some (decide (a0 ≤ 6), false, (a0 == 5)))) else (if a0 ≥ 3 then (some (false, decide (a0 ≤ 5), (a0 == 5))) else (some (false, false, (a0 == 5))))) = some (r1, r2, r3) := h
 clear h
 by_cases c2 : a0 ≥ 1
 ·
  rw [if_pos c2] at H
  have c2b0 : decide (1 ≤ a0) = true := decide_eq_true c2
  clear c2
  by_cases c3 : a0 ≥ 3
  ·
   rw [if_pos c3] at H
   have c3b0 : decide (3 ≤ a0) = true := decide_eq_true c3
   clear c3
   simp only [Option.some.injEq, Prod.mk.injEq] at H
   obtain ⟨rfl, rfl, rfl⟩ := H
   go_enter Try.func50, Try.ntmps50
   go_wp2
   go_ret3
   exact ⟨by first | rfl | (simp; done) | (simp [*]; done), by repeat (first | exact Drawn0.refl _ | apply Drawn0.step)⟩
  ·
   rw [if_neg c3] at H
   have c3b0 : decide (3 ≤ a0) = false := decide_eq_false c3
   clear c3
   simp only [Option.some.injEq, Prod.mk.injEq] at H
   obtain ⟨rfl, rfl, rfl⟩ := H
   go_enter Try.func50, Try.ntmps50
   go_wp2
   go_ret3
   exact ⟨by first | rfl | (simp; done) | (simp [*]; done), by repeat (first | exact Drawn0.refl _ | apply Drawn0.step)⟩
 ·
  rw [if_neg c2] at H
  have c2b0 : decide (1 ≤ a0) = false := decide_eq_false c2
  clear c2
  by_cases c4 : a0 ≥ 3
  ·
   rw [if_pos c4] at H
   have c4b0 : decide (3 ≤ a0) = true := decide_eq_true c4
   clear c4
   simp only [Option.some.injEq, Prod.mk.injEq] at H
   obtain ⟨rfl, rfl, rfl⟩ := H
   go_enter Try.func50, Try.ntmps50
   go_wp2
   go_ret3
   exact ⟨by first | rfl | (simp; done) | (simp [*]; done), by repeat (first | exact Drawn0.refl _ | apply Drawn0.step)⟩
  ·
   rw [if_neg c4] at H
   have c4b0 : decide (3 ≤ a0) = false := decide_eq_false c4
   clear c4
   simp only [Option.some.injEq, Prod.mk.injEq] at H
   obtain ⟨rfl, rfl, rfl⟩ := H
   go_enter Try.func50, Try.ntmps50
   go_wp2
   go_ret3
   exact ⟨by first | rfl | (simp; done) | (simp [*]; done), by repeat (first | exact Drawn0.refl _ | apply Drawn0.step)⟩


/-! ### pascalineref01_Power: function 59 -/
def pascalineref01_Power.l0 : Nat → Int → Int → Int → Option (Int)
 | 0, _, _, _ => none
 | k + 1, x0, x3, x4 => if x4 < x0 then (pascalineref01_Power.l0 k x0 (wrap64 (x3 * 2)) (wrap64 (x4 + 1))) else (some x3)
def pascalineref01_Power.f (k : Nat) (a0 : Int) : Option (Int) := pascalineref01_Power.l0 k a0 1 0
theorem pascalineref01_Power.mono_l : ∀ k, (∀ y0 y1 y2, LeO (pascalineref01_Power.l0 k y0 y1 y2) (pascalineref01_Power.l0 (k + 1) y0 y1 y2))
 | 0 => fun _ _ _ r h => by simp [pascalineref01_Power.l0] at h
 | k + 1 => by
  have ih0 := pascalineref01_Power.mono_l k
  ·
   intro y0 y1 y2
   unfold pascalineref01_Power.l0
   repeat' first
   | (with_reducible exact ih0 _ _ _)
   | (with_reducible exact LeO.refl _)
   | (with_reducible exact LeO.none _)
   | (with_reducible refine LeO.ite ?_ ?_)
   | (with_reducible refine LeO.bind ?_ (fun _ => ?_))
   | exact LeO.none _
   | refine LeO.ite ?_ ?_
   | refine LeO.bind ?_ (fun _ => ?_)
theorem pascalineref01_Power.mono : ∀ a0 k, LeO (pascalineref01_Power.f k a0) (pascalineref01_Power.f (k + 1) a0) := by
 intro a0 k
 have ih0 := pascalineref01_Power.mono_l k
 unfold pascalineref01_Power.f
 repeat' first
  | (with_reducible exact ih0 _ _ _)
  | (with_reducible exact LeO.refl _)
  | (with_reducible exact LeO.none _)
  | (with_reducible refine LeO.ite ?_ ?_)
  | (with_reducible refine LeO.bind ?_ (fun _ => ?_))
  | exact LeO.none _
  | refine LeO.ite ?_ ?_
  | refine LeO.bind ?_ (fun _ => ?_)
set_option maxHeartbeats 8000000 in
set_option maxRecDepth 100000 in
theorem pascalineref01_Power.calls (k : Nat) (a0 : Int) (r : Int) (w : World) (h : pascalineref01_Power.f k a0 = some r) :
 Calls Try.prog 59 #[.int .i64 a0] w fun e w' => e = .returned (.int .i64 r) ∧ Drawn0 w w' := by
 have H : (pascalineref01_Power.l0 k a0 1 0) = some r := h
 clear h
 have H' := mK H
 clear H
 go_enter Try.func59, Try.ntmps59
 go_wp2
 go_loopg [3, 4] k (fun kq v3 v4 w' => ∃ (x3_1 : Int) (x4_1 : Int), v3 = .int .i64 x3_1 ∧ v4 = .int .i64 x4_1 ∧ Aside0 (pascalineref01_Power.l0 kq a0 x3_1 x4_1 = some r) ∧ Aside0 (kq ≤ k) ∧ Drawn0 w w')
 case atStart => exact ⟨(1), (0), (by first | rfl | (simp; done) | (simp [*]; done)), (by first | rfl | (simp; done) | (simp [*]; done)), H', ⟨Nat.le_refl _⟩, by repeat (first | exact Drawn0.refl _ | apply Drawn0.step)⟩
 case round =>
  clear H'
  obtain ⟨x3_1, x4_1, rfl, rfl, HA, HK1, ⟨m1, rfl⟩⟩ := hrel
  cases gk with
  | zero => exact absurd HA.out (by simp [pascalineref01_Power.l0])
  | succ k1 =>
   have H := HA.out
   clear HA
   simp only [pascalineref01_Power.l0] at H
   by_cases c2 : x4_1 < a0
   ·
    rw [if_pos c2] at H
    have c2b0 : decide (x4_1 < a0) = true := decide_eq_true c2
    clear c2
    have H' := mK H
    clear H
    go_wp2
    go_roundg k1
    case measure => have := HK1.out; omega
    case rel => exact ⟨(wrap64 (x3_1 * 2)), (wrap64 (x4_1 + 1)), (by first | rfl | (simp; done) | (simp [*]; done)), (by first | rfl | (simp; done) | (simp [*]; done)), H', ⟨by have := HK1.out; omega⟩, by repeat (first | exact Drawn0.refl _ | apply Drawn0.step)⟩
   ·
    rw [if_neg c2] at H
    have c2b0 : decide (x4_1 < a0) = false := decide_eq_false c2
    clear c2
    obtain rfl := Option.some.inj H
    go_wp2
    go_ret
    exact ⟨by first | rfl | (simp; done) | (simp [*]; done), by repeat (first | exact Drawn0.refl _ | apply Drawn0.step)⟩


/-! ### pascalineref01_Round: function 60 -/
def pascalineref01_Round.f (a0 : Int) : Option (Int) := if (Int.tmod a0 4294967296) < 0 then (if (wrap64 ((Int.tmod a0 4294967296) + 4294967296)) ≥ 2147483648 then (some (wrap32 (wrap64 ((wrap64 ((Int.tmod a0 4294967296) + 4294967296)) - 4294967296)))) else (some (wrap32 (wrap64 ((Int.tmod a0 4294967296) + 4294967296))))) else (if (Int.tmod a0 4294967296) ≥ 2147483648 then (some (wrap32 (wrap64 ((Int.tmod a0 4294967296) - 4294967296)))) else (some (wrap32 (Int.tmod a0 4294967296))))
set_option maxHeartbeats 8000000 in
set_option maxRecDepth 100000 in
theorem pascalineref01_Round.calls (a0 : Int) (r : Int) (w : World) (h : pascalineref01_Round.f a0 = some r) :
 Calls Try.prog 60 #[.int .i64 a0] w fun e w' => e = .returned (.int .i32 r) ∧ Drawn0 w w' := by
 have H : (if (Int.tmod a0 4294967296) < 0 then (if (wrap64 ((Int.tmod a0 4294967296) + 4294967296)) ≥ 2147483648 then (some (wrap32 (wrap64 ((wrap64 ((Int.tmod a0 4294967296) + 4294967296)) - 4294967296)))) else (some (wrap32 (wrap64 ((Int.tmod a0 4294967296) + 4294967296))))) else (if (Int.tmod a0 4294967296) ≥ 2147483648 then (some (wrap32 (wrap64 ((Int.tmod a0 4294967296) - 4294967296)))) else (some (wrap32 (Int.tmod a0 4294967296))))) = some r := h
 clear h
 by_cases c2 : (Int.tmod a0 4294967296) < 0
 ·
  rw [if_pos c2] at H
  have c2b0 : decide ((Int.tmod a0 4294967296) < 0) = true := decide_eq_true c2
  clear c2
  by_cases c3 : (wrap64 ((Int.tmod a0 4294967296) + 4294967296)) ≥ 2147483648
  ·
   rw [if_pos c3] at H
   have c3b0 : decide (2147483648 ≤ (wrap64 ((Int.tmod a0 4294967296) + 4294967296))) = true := decide_eq_true c3
   clear c3
   obtain rfl := Option.some.inj H
   go_enter Try.func60, Try.ntmps60
   go_wp2
   go_ret
   exact ⟨by first | rfl | (simp; done) | (simp [*]; done), by repeat (first | exact Drawn0.refl _ | apply Drawn0.step)⟩
  ·
   rw [if_neg c3] at H
   have c3b0 : decide (2147483648 ≤ (wrap64 ((Int.tmod a0 4294967296) + 4294967296))) = false := decide_eq_false c3
   clear c3
   obtain rfl := Option.some.inj H
   go_enter Try.func60, Try.ntmps60
   go_wp2
   go_ret
   exact ⟨by first | rfl | (simp; done) | (simp [*]; done), by repeat (first | exact Drawn0.refl _ | apply Drawn0.step)⟩
 ·
  rw [if_neg c2] at H
  have c2b0 : decide ((Int.tmod a0 4294967296) < 0) = false := decide_eq_false c2
  clear c2
  by_cases c4 : (Int.tmod a0 4294967296) ≥ 2147483648
  ·
   rw [if_pos c4] at H
   have c4b0 : decide (2147483648 ≤ (Int.tmod a0 4294967296)) = true := decide_eq_true c4
   clear c4
   obtain rfl := Option.some.inj H
   go_enter Try.func60, Try.ntmps60
   go_wp2
   go_ret
   exact ⟨by first | rfl | (simp; done) | (simp [*]; done), by repeat (first | exact Drawn0.refl _ | apply Drawn0.step)⟩
  ·
   rw [if_neg c4] at H
   have c4b0 : decide (2147483648 ≤ (Int.tmod a0 4294967296)) = false := decide_eq_false c4
   clear c4
   obtain rfl := Option.some.inj H
   go_enter Try.func60, Try.ntmps60
   go_wp2
   go_ret
   exact ⟨by first | rfl | (simp; done) | (simp [*]; done), by repeat (first | exact Drawn0.refl _ | apply Drawn0.step)⟩


/-! ### pascalineref01_Sext: function 51 -/
def pascalineref01_Sext.f (k : Nat) (a0 : Int) (a1 : Int) : Option (Int) := if a1 < 1 then (some 0) else ((pascalineref01_Power.f k (mn a1 32)).bind fun t259 => (if t259 = 0 then (none) else (if (Int.tmod (wrap64 (a0)) t259) ≥ (wrap64 (Int.tdiv t259 2)) then ((pascalineref01_Round.f (wrap64 ((Int.tmod (wrap64 (a0)) t259) - t259))).bind fun t260 => (some t260)) else ((pascalineref01_Round.f (Int.tmod (wrap64 (a0)) t259)).bind fun t261 => (some t261)))))
theorem pascalineref01_Sext.mono : ∀ a0 a1 k, LeO (pascalineref01_Sext.f k a0 a1) (pascalineref01_Sext.f (k + 1) a0 a1) := by
 intro a0 a1 k
 unfold pascalineref01_Sext.f
 repeat' first
  | (with_reducible exact pascalineref01_Power.mono _ _)
  | (with_reducible exact LeO.refl _)
  | (with_reducible exact LeO.none _)
  | (with_reducible refine LeO.ite ?_ ?_)
  | (with_reducible refine LeO.bind ?_ (fun _ => ?_))
  | exact LeO.none _
  | refine LeO.ite ?_ ?_
  | refine LeO.bind ?_ (fun _ => ?_)
set_option maxHeartbeats 8000000 in
set_option maxRecDepth 100000 in
theorem pascalineref01_Sext.calls (k : Nat) (a0 : Int) (a1 : Int) (r : Int) (w : World) (h : pascalineref01_Sext.f k a0 a1 = some r) :
 Calls Try.prog 51 #[.int .u32 a0, .int .i64 a1] w fun e w' => e = .returned (.int .i32 r) ∧ Below w.heap.size w w' := by
 have HB := mK (Below.refl w.heap.size w)
 have H : (if a1 < 1 then (some 0) else ((pascalineref01_Power.f k (mn a1 32)).bind fun t259 => (if t259 = 0 then (none) else (if (Int.tmod (wrap64 (a0)) t259) ≥ (wrap64 (Int.tdiv t259 2)) then ((pascalineref01_Round.f (wrap64 ((Int.tmod (wrap64 (a0)) t259) - t259))).bind fun t260 => (some t260)) else ((pascalineref01_Round.f (Int.tmod (wrap64 (a0)) t259)).bind fun t261 => (some t261)))))) = some r := h
 clear h
 by_cases c3 : a1 < 1
 ·
  rw [if_pos c3] at H
  have c3b0 : decide (a1 < 1) = true := decide_eq_true c3
  clear c3
  obtain rfl := Option.some.inj H
  go_enter Try.func51, Try.ntmps51
  go_wp2
  go_ret
  exact ⟨by first | rfl | (simp [errW_none, errW_some] <;> rfl) | (simp [*, errW_none, errW_some] <;> rfl), by repeat (first | (with_reducible first | exact HB.out | apply bA | apply bN | apply bD) | exact HB.out)⟩
 ·
  rw [if_neg c3] at H
  have c3b0 : decide (a1 < 1) = false := decide_eq_false c3
  clear c3
  obtain ⟨ji4, hji4⟩ : ∃ j_ : Int, (mn a1 32) = j_ := ⟨_, rfl⟩
  replace H : ((pascalineref01_Power.f k (ji4)).bind fun t259 => (if t259 = 0 then (none) else (if (Int.tmod (wrap64 (a0)) t259) ≥ (wrap64 (Int.tdiv t259 2)) then ((pascalineref01_Round.f (wrap64 ((Int.tmod (wrap64 (a0)) t259) - t259))).bind fun t260 => (some t260)) else ((pascalineref01_Round.f (Int.tmod (wrap64 (a0)) t259)).bind fun t261 => (some t261))))) = some r := by first | (rw [hji4] at H; exact H) | (simp only [hji4] at H ⊢; exact H)
  (try (have hji4h : ji4 ≤ 32 := by (rw [← hji4]; unfold mn; (repeat' split) <;> omega)))
  (try (have hji4g : ji4 ≤ 64 := by omega))
  have hji4_ : (if 32 < a1 then 32 else a1) = ji4 := hji4
  replace H := oB H
  obtain ⟨t259, A50, H⟩ := H
  replace H : (if t259 = 0 then (none) else (if (Int.tmod (wrap64 (a0)) t259) ≥ (wrap64 (Int.tdiv t259 2)) then ((pascalineref01_Round.f (wrap64 ((Int.tmod (wrap64 (a0)) t259) - t259))).bind fun t260 => (some t260)) else ((pascalineref01_Round.f (Int.tmod (wrap64 (a0)) t259)).bind fun t261 => (some t261)))) = some r := H
  have A5 := mK A50
  clear A50
  by_cases c6 : t259 = 0
  ·
   rw [if_pos c6] at H
   exact absurd H (by simp)
  ·
   rw [if_neg c6] at H
   have c6b0 : (t259 == 0) = false := bQ c6
   have c6b1 : (t259 != 0) = true := bne_iff_ne.mpr c6
   by_cases c7 : (Int.tmod (wrap64 (a0)) t259) ≥ (wrap64 (Int.tdiv t259 2))
   ·
    rw [if_pos c7] at H
    have c7b0 : decide ((wrap64 (Int.tdiv t259 2)) ≤ (Int.tmod (wrap64 (a0)) t259)) = true := decide_eq_true c7
    clear c7
    replace H := oB H
    obtain ⟨t260, A80, H⟩ := H
    replace H : (some t260) = some r := H
    have A8 := mK A80
    clear A80
    obtain rfl := Option.some.inj H
    go_enter Try.func51, Try.ntmps51
    go_wp2_with (first | ((with_reducible refine gate_callee (f := 59) rfl ?_); refine goesL_ (some 11) rfl rfl Try.func59 (by kernel_rfl) rfl #[.int .i64 ji4] rfl (by (try simp only [List.map_toArray, List.map_cons, List.map_nil]); first | done | (simp only [hji4]; rfl) | rfl | (simp only [List.length_drop, List.length_take]; rfl)) ?_; (with_reducible refine (pascalineref01_Power.calls k ji4 t259 _ A5.out).mono ?_); rintro e w' ⟨rfl, ⟨nd, rfl⟩⟩; refine ⟨_, rfl, ?_⟩) | ((with_reducible refine gate_callee (f := 60) rfl ?_); refine goesL_ (some 24) rfl rfl Try.func60 (by kernel_rfl) rfl #[.int .i64 (wrap64 ((Int.tmod (wrap64 (a0)) t259) - t259))] rfl (by (try simp only [List.map_toArray, List.map_cons, List.map_nil]); first | done | rfl) ?_; (with_reducible refine (pascalineref01_Round.calls (wrap64 ((Int.tmod (wrap64 (a0)) t259) - t259)) t260 _ A8.out).mono ?_); rintro e w' ⟨rfl, ⟨nd, rfl⟩⟩; refine ⟨_, rfl, ?_⟩))
    go_ret
    exact ⟨by first | rfl | (simp [errW_none, errW_some] <;> rfl) | (simp only [← hji4]; first | rfl | (simp [errW_none, errW_some] <;> rfl)) | (simp [*, errW_none, errW_some] <;> rfl), by repeat (first | (with_reducible first | exact HB.out | apply bA | apply bN | apply bD) | exact HB.out)⟩
   ·
    rw [if_neg c7] at H
    have c7b0 : decide ((wrap64 (Int.tdiv t259 2)) ≤ (Int.tmod (wrap64 (a0)) t259)) = false := decide_eq_false c7
    clear c7
    replace H := oB H
    obtain ⟨t261, A90, H⟩ := H
    replace H : (some t261) = some r := H
    have A9 := mK A90
    clear A90
    obtain rfl := Option.some.inj H
    go_enter Try.func51, Try.ntmps51
    go_wp2_with (first | ((with_reducible refine gate_callee (f := 59) rfl ?_); refine goesL_ (some 11) rfl rfl Try.func59 (by kernel_rfl) rfl #[.int .i64 ji4] rfl (by (try simp only [List.map_toArray, List.map_cons, List.map_nil]); first | done | (simp only [hji4]; rfl) | rfl | (simp only [List.length_drop, List.length_take]; rfl)) ?_; (with_reducible refine (pascalineref01_Power.calls k ji4 t259 _ A5.out).mono ?_); rintro e w' ⟨rfl, ⟨nd, rfl⟩⟩; refine ⟨_, rfl, ?_⟩) | ((with_reducible refine gate_callee (f := 60) rfl ?_); refine goesL_ (some 24) rfl rfl Try.func60 (by kernel_rfl) rfl #[.int .i64 (Int.tmod (wrap64 (a0)) t259)] rfl (by (try simp only [List.map_toArray, List.map_cons, List.map_nil]); first | done | rfl) ?_; (with_reducible refine (pascalineref01_Round.calls (Int.tmod (wrap64 (a0)) t259) t261 _ A9.out).mono ?_); rintro e w' ⟨rfl, ⟨nd, rfl⟩⟩; refine ⟨_, rfl, ?_⟩))
    go_ret
    exact ⟨by first | rfl | (simp [errW_none, errW_some] <;> rfl) | (simp only [← hji4]; first | rfl | (simp [errW_none, errW_some] <;> rfl)) | (simp [*, errW_none, errW_some] <;> rfl), by repeat (first | (with_reducible first | exact HB.out | apply bA | apply bN | apply bD) | exact HB.out)⟩


/-! ### pascalineref02_Check: function 53 -/
mutual
def pascalineref02_Check.j0 : Nat → Int → Bool → Int → Int → Int → Int → Int → Option (Int)
 | 0, _, _, _, _, _, _, _ => none
 | k + 1, x3, x74, x263000, x263001, x263002, x263003, x263004 => if x74 = true then (some 20) else (if x3 = 1 then (pascalineref02_Check.j1 k 0 0 x3 (x3 == 1) x263000 x263001 x263002 x263003 x263004) else (pascalineref02_Check.j1 k 0 0 x3 (x3 == 3) x263000 x263001 x263002 x263003 x263004))
def pascalineref02_Check.j1 : Nat → Int → Int → Int → Bool → Int → Int → Int → Int → Int → Option (Int)
 | 0, _, _, _, _, _, _, _, _, _ => none
 | k + 1, x7, x8, x75, x76, x263000, x263001, x263002, x263003, x263004 => if x76 = true then (if x263004 < (-32768) then (some 20) else (if x263004 > 32767 then (some 20) else (some 0))) else (if x75 = 2 then (pascalineref02_Check.j2 k x7 x8 x75 (x75 == 2) x263000 x263001 x263002 x263003 x263004) else (if x75 = 4 then (pascalineref02_Check.j2 k x7 x8 x75 (x75 == 4) x263000 x263001 x263002 x263003 x263004) else (pascalineref02_Check.j2 k x7 x8 x75 (x75 == 8) x263000 x263001 x263002 x263003 x263004)))
def pascalineref02_Check.j2 : Nat → Int → Int → Int → Bool → Int → Int → Int → Int → Int → Option (Int)
 | 0, _, _, _, _, _, _, _, _, _ => none
 | k + 1, x7, x8, x75, x79, x263000, x263001, x263002, x263003, x263004 => if x79 = true then (if x263004 < x7 then (some 20) else (if x263004 > 65535 then (some 20) else (some 0))) else (if x75 = 7 then (if x263004 < (-8388608) then (some 20) else (if x263004 > 8388607 then (some 20) else (some 0))) else (if x263004 < x7 then (some 20) else (if x263004 > x8 then (some 20) else (some 0))))
end
def pascalineref02_Check.f (k : Nat) (a0_0 : Int) (a0_1 : Int) (a0_2 : Int) (a0_3 : Int) (a0_4 : Int) : Option (Int) := (pascalineref02_Shape.f k a0_0).bind fun t263 => (if t263 < 0 then (some 21) else ((pascalineref02_has.f t263).bind fun bt264 => (if a0_1 < 0 then (pascalineref02_Check.j0 k t263 true a0_0 a0_1 a0_2 a0_3 a0_4) else (if a0_1 > 15 then (pascalineref02_Check.j0 k t263 true a0_0 a0_1 a0_2 a0_3 a0_4) else (if a0_2 < 0 then (pascalineref02_Check.j0 k t263 true a0_0 a0_1 a0_2 a0_3 a0_4) else (if a0_2 > 15 then (pascalineref02_Check.j0 k t263 true a0_0 a0_1 a0_2 a0_3 a0_4) else (if a0_3 < 0 then (pascalineref02_Check.j0 k t263 true a0_0 a0_1 a0_2 a0_3 a0_4) else (if a0_3 > 15 then (pascalineref02_Check.j0 k t263 true a0_0 a0_1 a0_2 a0_3 a0_4) else (if bt264.1 = true then (if bt264.2.1 = true then (if bt264.2.2 = true then (pascalineref02_Check.j0 k t263 false a0_0 a0_1 a0_2 a0_3 a0_4) else (pascalineref02_Check.j0 k t263 (a0_3 != 0) a0_0 a0_1 a0_2 a0_3 a0_4)) else (if a0_2 = 0 then (if bt264.2.2 = true then (pascalineref02_Check.j0 k t263 false a0_0 a0_1 a0_2 a0_3 a0_4) else (pascalineref02_Check.j0 k t263 (a0_3 != 0) a0_0 a0_1 a0_2 a0_3 a0_4)) else (pascalineref02_Check.j0 k t263 true a0_0 a0_1 a0_2 a0_3 a0_4))) else (if a0_1 = 0 then (if bt264.2.1 = true then (if bt264.2.2 = true then (pascalineref02_Check.j0 k t263 false a0_0 a0_1 a0_2 a0_3 a0_4) else (pascalineref02_Check.j0 k t263 (a0_3 != 0) a0_0 a0_1 a0_2 a0_3 a0_4)) else (if a0_2 = 0 then (if bt264.2.2 = true then (pascalineref02_Check.j0 k t263 false a0_0 a0_1 a0_2 a0_3 a0_4) else (pascalineref02_Check.j0 k t263 (a0_3 != 0) a0_0 a0_1 a0_2 a0_3 a0_4)) else (pascalineref02_Check.j0 k t263 true a0_0 a0_1 a0_2 a0_3 a0_4))) else (pascalineref02_Check.j0 k t263 true a0_0 a0_1 a0_2 a0_3 a0_4)))))))))))
theorem pascalineref02_Check.mono_l : ∀ k, (∀ y0 y1 y2 y3 y4 y5 y6, LeO (pascalineref02_Check.j0 k y0 y1 y2 y3 y4 y5 y6) (pascalineref02_Check.j0 (k + 1) y0 y1 y2 y3 y4 y5 y6)) ∧ (∀ y0 y1 y2 y3 y4 y5 y6 y7 y8, LeO (pascalineref02_Check.j1 k y0 y1 y2 y3 y4 y5 y6 y7 y8) (pascalineref02_Check.j1 (k + 1) y0 y1 y2 y3 y4 y5 y6 y7 y8)) ∧ (∀ y0 y1 y2 y3 y4 y5 y6 y7 y8, LeO (pascalineref02_Check.j2 k y0 y1 y2 y3 y4 y5 y6 y7 y8) (pascalineref02_Check.j2 (k + 1) y0 y1 y2 y3 y4 y5 y6 y7 y8))
 | 0 => ⟨fun _ _ _ _ _ _ _ r h => by simp [pascalineref02_Check.j0] at h, fun _ _ _ _ _ _ _ _ _ r h => by simp [pascalineref02_Check.j1] at h, fun _ _ _ _ _ _ _ _ _ r h => by simp [pascalineref02_Check.j2] at h⟩
 | k + 1 => by
  obtain ⟨ih0, ih1, ih2⟩ := pascalineref02_Check.mono_l k
  refine ⟨?_, ?_, ?_⟩
  ·
   intro y0 y1 y2 y3 y4 y5 y6
   unfold pascalineref02_Check.j0
   repeat' first
   | (with_reducible exact ih0 _ _ _ _ _ _ _)
   | (with_reducible exact ih1 _ _ _ _ _ _ _ _ _)
   | (with_reducible exact ih2 _ _ _ _ _ _ _ _ _)
   | (with_reducible exact pascalineref02_Shape.mono _ _)
   | (with_reducible exact LeO.refl _)
   | (with_reducible exact LeO.none _)
   | (with_reducible refine LeO.ite ?_ ?_)
   | (with_reducible refine LeO.bind ?_ (fun _ => ?_))
   | exact LeO.none _
   | refine LeO.ite ?_ ?_
   | refine LeO.bind ?_ (fun _ => ?_)
  ·
   intro y0 y1 y2 y3 y4 y5 y6 y7 y8
   unfold pascalineref02_Check.j1
   repeat' first
   | (with_reducible exact ih0 _ _ _ _ _ _ _)
   | (with_reducible exact ih1 _ _ _ _ _ _ _ _ _)
   | (with_reducible exact ih2 _ _ _ _ _ _ _ _ _)
   | (with_reducible exact pascalineref02_Shape.mono _ _)
   | (with_reducible exact LeO.refl _)
   | (with_reducible exact LeO.none _)
   | (with_reducible refine LeO.ite ?_ ?_)
   | (with_reducible refine LeO.bind ?_ (fun _ => ?_))
   | exact LeO.none _
   | refine LeO.ite ?_ ?_
   | refine LeO.bind ?_ (fun _ => ?_)
  ·
   intro y0 y1 y2 y3 y4 y5 y6 y7 y8
   unfold pascalineref02_Check.j2
   repeat' first
   | (with_reducible exact ih0 _ _ _ _ _ _ _)
   | (with_reducible exact ih1 _ _ _ _ _ _ _ _ _)
   | (with_reducible exact ih2 _ _ _ _ _ _ _ _ _)
   | (with_reducible exact pascalineref02_Shape.mono _ _)
   | (with_reducible exact LeO.refl _)
   | (with_reducible exact LeO.none _)
   | (with_reducible refine LeO.ite ?_ ?_)
   | (with_reducible refine LeO.bind ?_ (fun _ => ?_))
   | exact LeO.none _
   | refine LeO.ite ?_ ?_
   | refine LeO.bind ?_ (fun _ => ?_)
theorem pascalineref02_Check.mono : ∀ a0 a1 a2 a3 a4 k, LeO (pascalineref02_Check.f k a0 a1 a2 a3 a4) (pascalineref02_Check.f (k + 1) a0 a1 a2 a3 a4) := by
 intro a0 a1 a2 a3 a4 k
 obtain ⟨ih0, ih1, ih2⟩ := pascalineref02_Check.mono_l k
 unfold pascalineref02_Check.f
 repeat' first
  | (with_reducible exact ih0 _ _ _ _ _ _ _)
  | (with_reducible exact ih1 _ _ _ _ _ _ _ _ _)
  | (with_reducible exact ih2 _ _ _ _ _ _ _ _ _)
  | (with_reducible exact pascalineref02_Shape.mono _ _)
  | (with_reducible exact LeO.refl _)
  | (with_reducible exact LeO.none _)
  | (with_reducible refine LeO.ite ?_ ?_)
  | (with_reducible refine LeO.bind ?_ (fun _ => ?_))
  | exact LeO.none _
  | refine LeO.ite ?_ ?_
  | refine LeO.bind ?_ (fun _ => ?_)
set_option maxHeartbeats 8000000 in
set_option maxRecDepth 100000 in
theorem pascalineref02_Check.calls (k : Nat) (a0_0 : Int) (a0_1 : Int) (a0_2 : Int) (a0_3 : Int) (a0_4 : Int) (r : Int) (w : World) (h : pascalineref02_Check.f k a0_0 a0_1 a0_2 a0_3 a0_4 = some r) :
 Calls Try.prog 53 #[.agg #[.int .i64 a0_0, .int .i64 a0_1, .int .i64 a0_2, .int .i64 a0_3, .int .i64 a0_4]] w fun e w' => e = .returned (.int .i64 r) ∧ Below w.heap.size w w' := by
 have hu102 := Try.underlying102
 have HB := mK (Below.refl w.heap.size w)
 have H : ((pascalineref02_Shape.f k a0_0).bind fun t263 => (if t263 < 0 then (some 21) else ((pascalineref02_has.f t263).bind fun bt264 => (if a0_1 < 0 then (pascalineref02_Check.j0 k t263 true a0_0 a0_1 a0_2 a0_3 a0_4) else (if a0_1 > 15 then (pascalineref02_Check.j0 k t263 true a0_0 a0_1 a0_2 a0_3 a0_4) else (if a0_2 < 0 then (pascalineref02_Check.j0 k t263 true a0_0 a0_1 a0_2 a0_3 a0_4) else (if a0_2 > 15 then (pascalineref02_Check.j0 k t263 true a0_0 a0_1 a0_2 a0_3 a0_4) else (if a0_3 < 0 then (pascalineref02_Check.j0 k t263 true a0_0 a0_1 a0_2 a0_3 a0_4) else (if a0_3 > 15 then (pascalineref02_Check.j0 k t263 true a0_0 a0_1 a0_2 a0_3 a0_4) else (if bt264.1 = true then (if bt264.2.1 = true then (if bt264.2.2 = true then (pascalineref02_Check.j0 k t263 false a0_0 a0_1 a0_2 a0_3 a0_4) else (pascalineref02_Check.j0 k t263 (a0_3 != 0) a0_0 a0_1 a0_2 a0_3 a0_4)) else (if a0_2 = 0 then (if bt264.2.2 = true then (pascalineref02_Check.j0 k t263 false a0_0 a0_1 a0_2 a0_3 a0_4) else (pascalineref02_Check.j0 k t263 (a0_3 != 0) a0_0 a0_1 a0_2 a0_3 a0_4)) else (pascalineref02_Check.j0 k t263 true a0_0 a0_1 a0_2 a0_3 a0_4))) else (if a0_1 = 0 then (if bt264.2.1 = true then (if bt264.2.2 = true then (pascalineref02_Check.j0 k t263 false a0_0 a0_1 a0_2 a0_3 a0_4) else (pascalineref02_Check.j0 k t263 (a0_3 != 0) a0_0 a0_1 a0_2 a0_3 a0_4)) else (if a0_2 = 0 then (if bt264.2.2 = true then (pascalineref02_Check.j0 k t263 false a0_0 a0_1 a0_2 a0_3 a0_4) else (pascalineref02_Check.j0 k t263 (a0_3 != 0) a0_0 a0_1 a0_2 a0_3 a0_4)) else (pascalineref02_Check.j0 k t263 true a0_0 a0_1 a0_2 a0_3 a0_4))) else (pascalineref02_Check.j0 k t263 true a0_0 a0_1 a0_2 a0_3 a0_4)))))))))))) = some r := h
 clear h
 replace H := oB H
 obtain ⟨t263, A20, H⟩ := H
 replace H : (if t263 < 0 then (some 21) else ((pascalineref02_has.f t263).bind fun bt264 => (if a0_1 < 0 then (pascalineref02_Check.j0 k t263 true a0_0 a0_1 a0_2 a0_3 a0_4) else (if a0_1 > 15 then (pascalineref02_Check.j0 k t263 true a0_0 a0_1 a0_2 a0_3 a0_4) else (if a0_2 < 0 then (pascalineref02_Check.j0 k t263 true a0_0 a0_1 a0_2 a0_3 a0_4) else (if a0_2 > 15 then (pascalineref02_Check.j0 k t263 true a0_0 a0_1 a0_2 a0_3 a0_4) else (if a0_3 < 0 then (pascalineref02_Check.j0 k t263 true a0_0 a0_1 a0_2 a0_3 a0_4) else (if a0_3 > 15 then (pascalineref02_Check.j0 k t263 true a0_0 a0_1 a0_2 a0_3 a0_4) else (if bt264.1 = true then (if bt264.2.1 = true then (if bt264.2.2 = true then (pascalineref02_Check.j0 k t263 false a0_0 a0_1 a0_2 a0_3 a0_4) else (pascalineref02_Check.j0 k t263 (a0_3 != 0) a0_0 a0_1 a0_2 a0_3 a0_4)) else (if a0_2 = 0 then (if bt264.2.2 = true then (pascalineref02_Check.j0 k t263 false a0_0 a0_1 a0_2 a0_3 a0_4) else (pascalineref02_Check.j0 k t263 (a0_3 != 0) a0_0 a0_1 a0_2 a0_3 a0_4)) else (pascalineref02_Check.j0 k t263 true a0_0 a0_1 a0_2 a0_3 a0_4))) else (if a0_1 = 0 then (if bt264.2.1 = true then (if bt264.2.2 = true then (pascalineref02_Check.j0 k t263 false a0_0 a0_1 a0_2 a0_3 a0_4) else (pascalineref02_Check.j0 k t263 (a0_3 != 0) a0_0 a0_1 a0_2 a0_3 a0_4)) else (if a0_2 = 0 then (if bt264.2.2 = true then (pascalineref02_Check.j0 k t263 false a0_0 a0_1 a0_2 a0_3 a0_4) else (pascalineref02_Check.j0 k t263 (a0_3 != 0) a0_0 a0_1 a0_2 a0_3 a0_4)) else (pascalineref02_Check.j0 k t263 true a0_0 a0_1 a0_2 a0_3 a0_4))) else (pascalineref02_Check.j0 k t263 true a0_0 a0_1 a0_2 a0_3 a0_4))))))))))) = some r := H
 have A2 := mK A20
 clear A20
 by_cases c3 : t263 < 0
 ·
  rw [if_pos c3] at H
  have c3b0 : decide (t263 < 0) = true := decide_eq_true c3
  clear c3
  obtain rfl := Option.some.inj H
  go_enter Try.func53, Try.ntmps53
  go_wp2_with (first | ((with_reducible refine gate_dst (N := 1) rfl ?_); refine box_event ?hg (N := 1) ?hd (cs := #[.int .i64 a0_0, .int .i64 a0_1, .int .i64 a0_2, .int .i64 a0_3, .int .i64 a0_4]) (t := 102) ?hr ?_; (case hd => rfl); (case hg => rfl); (case hr => first | (go_simp; done) | (go_simp; rfl)); intro gb262 hg w4 hbox hb; have n0_ := mK (bP (by repeat (first | (with_reducible first | exact HB.out | apply bA | apply bN | apply bD) | exact HB.out)) hb); have n1_ := mK (hbox); have n2_ := mK ((by rw [hg]; exact (bZ (by repeat (first | (with_reducible first | exact HB.out | apply bA | apply bN | apply bD) | exact HB.out))) : w.heap.size ≤ gb262)); have n3_ := mK ((by rw [hg]; exact (bZ (by repeat (first | (with_reducible first | exact HB.out | apply bA | apply bN | apply bD) | exact HB.out))) : w.heap.size ≤ gb262)); clear HB; have HB := n0_; have BK262 := n1_; have GW262 := n2_; have GE262 := n3_; clear n0_ n1_ n2_ n3_; clear hb hbox hg; obtain ⟨hcz5_0, hcz5_1, hcz5_2, hcz5_3, hcz5_4, hfz5_0, hfz5_1, hfz5_2, hfz5_3, hfz5_4⟩ := cf5 BK262.out) | ((with_reducible refine gate_callee (f := 49) rfl ?_); refine goesL_ (some 11) rfl rfl Try.func49 (by kernel_rfl) rfl #[.int .i64 a0_0] rfl (by (try simp only [List.map_toArray, List.map_cons, List.map_nil]); first | done | rfl) ?_; (with_reducible refine (pascalineref02_Shape.calls k a0_0 t263 _ A2.out).mono ?_); rintro e w' ⟨rfl, ⟨nd, rfl⟩⟩; refine ⟨_, rfl, ?_⟩))
  go_ret
  exact ⟨by first | rfl | (simp [errW_none, errW_some] <;> rfl) | (simp [*, errW_none, errW_some] <;> rfl), by repeat (first | (with_reducible first | exact HB.out | apply bA | apply bN | apply bD | refine bS ?_ GE262.out) | exact HB.out)⟩
 ·
  rw [if_neg c3] at H
  have c3b0 : decide (t263 < 0) = false := decide_eq_false c3
  clear c3
  replace H := oB H
  obtain ⟨⟨t264, t265, t266⟩, A60, H⟩ := H
  replace H : (if a0_1 < 0 then (pascalineref02_Check.j0 k t263 true a0_0 a0_1 a0_2 a0_3 a0_4) else (if a0_1 > 15 then (pascalineref02_Check.j0 k t263 true a0_0 a0_1 a0_2 a0_3 a0_4) else (if a0_2 < 0 then (pascalineref02_Check.j0 k t263 true a0_0 a0_1 a0_2 a0_3 a0_4) else (if a0_2 > 15 then (pascalineref02_Check.j0 k t263 true a0_0 a0_1 a0_2 a0_3 a0_4) else (if a0_3 < 0 then (pascalineref02_Check.j0 k t263 true a0_0 a0_1 a0_2 a0_3 a0_4) else (if a0_3 > 15 then (pascalineref02_Check.j0 k t263 true a0_0 a0_1 a0_2 a0_3 a0_4) else (if t264 = true then (if t265 = true then (if t266 = true then (pascalineref02_Check.j0 k t263 false a0_0 a0_1 a0_2 a0_3 a0_4) else (pascalineref02_Check.j0 k t263 (a0_3 != 0) a0_0 a0_1 a0_2 a0_3 a0_4)) else (if a0_2 = 0 then (if t266 = true then (pascalineref02_Check.j0 k t263 false a0_0 a0_1 a0_2 a0_3 a0_4) else (pascalineref02_Check.j0 k t263 (a0_3 != 0) a0_0 a0_1 a0_2 a0_3 a0_4)) else (pascalineref02_Check.j0 k t263 true a0_0 a0_1 a0_2 a0_3 a0_4))) else (if a0_1 = 0 then (if t265 = true then (if t266 = true then (pascalineref02_Check.j0 k t263 false a0_0 a0_1 a0_2 a0_3 a0_4) else (pascalineref02_Check.j0 k t263 (a0_3 != 0) a0_0 a0_1 a0_2 a0_3 a0_4)) else (if a0_2 = 0 then (if t266 = true then (pascalineref02_Check.j0 k t263 false a0_0 a0_1 a0_2 a0_3 a0_4) else (pascalineref02_Check.j0 k t263 (a0_3 != 0) a0_0 a0_1 a0_2 a0_3 a0_4)) else (pascalineref02_Check.j0 k t263 true a0_0 a0_1 a0_2 a0_3 a0_4))) else (pascalineref02_Check.j0 k t263 true a0_0 a0_1 a0_2 a0_3 a0_4))))))))) = some r := H
  have A6 := mK A60
  clear A60
  have HC7 := mK H
  clear H
  go_enter Try.func53, Try.ntmps53
  go_upto_region 5 with (first | ((with_reducible refine gate_dst (N := 1) rfl ?_); refine box_event ?hg (N := 1) ?hd (cs := #[.int .i64 a0_0, .int .i64 a0_1, .int .i64 a0_2, .int .i64 a0_3, .int .i64 a0_4]) (t := 102) ?hr ?_; (case hd => rfl); (case hg => rfl); (case hr => first | (go_simp; done) | (go_simp; rfl)); intro gb262 hg w8 hbox hb; have n0_ := mK (bP (by repeat (first | (with_reducible first | exact HB.out | apply bA | apply bN | apply bD) | exact HB.out)) hb); have n1_ := mK (hbox); have n2_ := mK ((by rw [hg]; exact (bZ (by repeat (first | (with_reducible first | exact HB.out | apply bA | apply bN | apply bD) | exact HB.out))) : w.heap.size ≤ gb262)); have n3_ := mK ((by rw [hg]; exact (bZ (by repeat (first | (with_reducible first | exact HB.out | apply bA | apply bN | apply bD) | exact HB.out))) : w.heap.size ≤ gb262)); clear HB; have HB := n0_; have BK262 := n1_; have GW262 := n2_; have GE262 := n3_; clear n0_ n1_ n2_ n3_; clear hb hbox hg; obtain ⟨hcz9_0, hcz9_1, hcz9_2, hcz9_3, hcz9_4, hfz9_0, hfz9_1, hfz9_2, hfz9_3, hfz9_4⟩ := cf5 BK262.out) | ((with_reducible refine gate_callee (f := 49) rfl ?_); refine goesL_ (some 11) rfl rfl Try.func49 (by kernel_rfl) rfl #[.int .i64 a0_0] rfl (by (try simp only [List.map_toArray, List.map_cons, List.map_nil]); first | done | rfl) ?_; (with_reducible refine (pascalineref02_Shape.calls k a0_0 t263 _ A2.out).mono ?_); rintro e w' ⟨rfl, ⟨nd, rfl⟩⟩; refine ⟨_, rfl, ?_⟩) | ((with_reducible refine gate_callee (f := 50) rfl ?_); refine goesL_ (some 16) rfl rfl Try.func50 (by kernel_rfl) rfl #[.int .i64 t263] rfl (by (try simp only [List.map_toArray, List.map_cons, List.map_nil]); first | done | rfl) ?_; (with_reducible refine (pascalineref02_has.calls t263 t264 t265 t266 _ A6.out).mono ?_); rintro e w' ⟨rfl, ⟨nd, rfl⟩⟩; refine ⟨_, rfl, ?_⟩))
  (try simp only [Act.put, List.setIfInBounds_toArray, List.set_cons_zero, List.set_cons_succ])
  go_cut [74] (fun v74 wc => ∃ (kq : Nat) (x74_6 : Bool), v74 = .bool x74_6 ∧ Aside0 (pascalineref02_Check.j0 kq t263 x74_6 a0_0 a0_1 a0_2 a0_3 a0_4 = some r) ∧ Aside0 (kq ≤ k) ∧ Aside0 (wc.heap[gb262]? = some (o5 a0_0 a0_1 a0_2 a0_3 a0_4 102)) ∧ Aside0 (Below w.heap.size w wc))
  case first =>
   have H := HC7.out
   clear HC7
   by_cases c10 : a0_1 < 0
   ·
    rw [if_pos c10] at H
    have c10b0 : decide (a0_1 < 0) = true := decide_eq_true c10
    clear c10
    (first | rw [c10b0] | (simp only [i64_w, i32_w]; rw [c10b0]) | skip)
    have H' := mK H
    clear H
    obtain ⟨hcz11_0, hcz11_1, hcz11_2, hcz11_3, hcz11_4, hfz11_0, hfz11_1, hfz11_2, hfz11_3, hfz11_4⟩ := cf5 BK262.out
    go_wp2
    go_meet
    case rel => exact ⟨_, (true), (by first | rfl | (simp; done) | (simp [*]; done)), H', ⟨by first | omega | exact Nat.le_refl _⟩, ⟨by (with_reducible repeat (first | refine kN ?_ _ | refine kD ?_ | refine kA ?_ _)); exact BK262.out⟩, ⟨by repeat (first | (with_reducible first | exact HB.out | apply bA | apply bN | apply bD | refine bS ?_ GE262.out) | exact HB.out)⟩⟩
   ·
    rw [if_neg c10] at H
    have c10b0 : decide (a0_1 < 0) = false := decide_eq_false c10
    clear c10
    (first | rw [c10b0] | (simp only [i64_w, i32_w]; rw [c10b0]) | skip)
    by_cases c12 : a0_1 > 15
    ·
     rw [if_pos c12] at H
     have c12b0 : decide (15 < a0_1) = true := decide_eq_true c12
     clear c12
     have H' := mK H
     clear H
     obtain ⟨hcz13_0, hcz13_1, hcz13_2, hcz13_3, hcz13_4, hfz13_0, hfz13_1, hfz13_2, hfz13_3, hfz13_4⟩ := cf5 BK262.out
     go_wp2
     go_meet
     case rel => exact ⟨_, (true), (by first | rfl | (simp; done) | (simp [*]; done)), H', ⟨by first | omega | exact Nat.le_refl _⟩, ⟨by (with_reducible repeat (first | refine kN ?_ _ | refine kD ?_ | refine kA ?_ _)); exact BK262.out⟩, ⟨by repeat (first | (with_reducible first | exact HB.out | apply bA | apply bN | apply bD | refine bS ?_ GE262.out) | exact HB.out)⟩⟩
    ·
     rw [if_neg c12] at H
     have c12b0 : decide (15 < a0_1) = false := decide_eq_false c12
     clear c12
     by_cases c14 : a0_2 < 0
     ·
      rw [if_pos c14] at H
      have c14b0 : decide (a0_2 < 0) = true := decide_eq_true c14
      clear c14
      have H' := mK H
      clear H
      obtain ⟨hcz15_0, hcz15_1, hcz15_2, hcz15_3, hcz15_4, hfz15_0, hfz15_1, hfz15_2, hfz15_3, hfz15_4⟩ := cf5 BK262.out
      go_wp2
      go_meet
      case rel => exact ⟨_, (true), (by first | rfl | (simp; done) | (simp [*]; done)), H', ⟨by first | omega | exact Nat.le_refl _⟩, ⟨by (with_reducible repeat (first | refine kN ?_ _ | refine kD ?_ | refine kA ?_ _)); exact BK262.out⟩, ⟨by repeat (first | (with_reducible first | exact HB.out | apply bA | apply bN | apply bD | refine bS ?_ GE262.out) | exact HB.out)⟩⟩
     ·
      rw [if_neg c14] at H
      have c14b0 : decide (a0_2 < 0) = false := decide_eq_false c14
      clear c14
      by_cases c16 : a0_2 > 15
      ·
       rw [if_pos c16] at H
       have c16b0 : decide (15 < a0_2) = true := decide_eq_true c16
       clear c16
       have H' := mK H
       clear H
       obtain ⟨hcz17_0, hcz17_1, hcz17_2, hcz17_3, hcz17_4, hfz17_0, hfz17_1, hfz17_2, hfz17_3, hfz17_4⟩ := cf5 BK262.out
       go_wp2
       go_meet
       case rel => exact ⟨_, (true), (by first | rfl | (simp; done) | (simp [*]; done)), H', ⟨by first | omega | exact Nat.le_refl _⟩, ⟨by (with_reducible repeat (first | refine kN ?_ _ | refine kD ?_ | refine kA ?_ _)); exact BK262.out⟩, ⟨by repeat (first | (with_reducible first | exact HB.out | apply bA | apply bN | apply bD | refine bS ?_ GE262.out) | exact HB.out)⟩⟩
      ·
       rw [if_neg c16] at H
       have c16b0 : decide (15 < a0_2) = false := decide_eq_false c16
       clear c16
       by_cases c18 : a0_3 < 0
       ·
        rw [if_pos c18] at H
        have c18b0 : decide (a0_3 < 0) = true := decide_eq_true c18
        clear c18
        have H' := mK H
        clear H
        obtain ⟨hcz19_0, hcz19_1, hcz19_2, hcz19_3, hcz19_4, hfz19_0, hfz19_1, hfz19_2, hfz19_3, hfz19_4⟩ := cf5 BK262.out
        go_wp2
        go_meet
        case rel => exact ⟨_, (true), (by first | rfl | (simp; done) | (simp [*]; done)), H', ⟨by first | omega | exact Nat.le_refl _⟩, ⟨by (with_reducible repeat (first | refine kN ?_ _ | refine kD ?_ | refine kA ?_ _)); exact BK262.out⟩, ⟨by repeat (first | (with_reducible first | exact HB.out | apply bA | apply bN | apply bD | refine bS ?_ GE262.out) | exact HB.out)⟩⟩
       ·
        rw [if_neg c18] at H
        have c18b0 : decide (a0_3 < 0) = false := decide_eq_false c18
        clear c18
        by_cases c20 : a0_3 > 15
        ·
         rw [if_pos c20] at H
         have c20b0 : decide (15 < a0_3) = true := decide_eq_true c20
         clear c20
         have H' := mK H
         clear H
         obtain ⟨hcz21_0, hcz21_1, hcz21_2, hcz21_3, hcz21_4, hfz21_0, hfz21_1, hfz21_2, hfz21_3, hfz21_4⟩ := cf5 BK262.out
         go_wp2
         go_meet
         case rel => exact ⟨_, (true), (by first | rfl | (simp; done) | (simp [*]; done)), H', ⟨by first | omega | exact Nat.le_refl _⟩, ⟨by (with_reducible repeat (first | refine kN ?_ _ | refine kD ?_ | refine kA ?_ _)); exact BK262.out⟩, ⟨by repeat (first | (with_reducible first | exact HB.out | apply bA | apply bN | apply bD | refine bS ?_ GE262.out) | exact HB.out)⟩⟩
        ·
         rw [if_neg c20] at H
         have c20b0 : decide (15 < a0_3) = false := decide_eq_false c20
         clear c20
         by_cases c22 : t264 = true
         ·
          subst c22
          have H1 : (if t265 = true then (if t266 = true then (pascalineref02_Check.j0 k t263 false a0_0 a0_1 a0_2 a0_3 a0_4) else (pascalineref02_Check.j0 k t263 (a0_3 != 0) a0_0 a0_1 a0_2 a0_3 a0_4)) else (if a0_2 = 0 then (if t266 = true then (pascalineref02_Check.j0 k t263 false a0_0 a0_1 a0_2 a0_3 a0_4) else (pascalineref02_Check.j0 k t263 (a0_3 != 0) a0_0 a0_1 a0_2 a0_3 a0_4)) else (pascalineref02_Check.j0 k t263 true a0_0 a0_1 a0_2 a0_3 a0_4))) = some r := by rw [if_pos rfl] at H; exact H
          clear H
          have H := H1
          clear H1
          by_cases c23 : t265 = true
          ·
           subst c23
           have H1 : (if t266 = true then (pascalineref02_Check.j0 k t263 false a0_0 a0_1 a0_2 a0_3 a0_4) else (pascalineref02_Check.j0 k t263 (a0_3 != 0) a0_0 a0_1 a0_2 a0_3 a0_4)) = some r := by rw [if_pos rfl] at H; exact H
           clear H
           have H := H1
           clear H1
           by_cases c24 : t266 = true
           ·
            subst c24
            have H1 : (pascalineref02_Check.j0 k t263 false a0_0 a0_1 a0_2 a0_3 a0_4) = some r := by rw [if_pos rfl] at H; exact H
            clear H
            have H := H1
            clear H1
            have H' := mK H
            clear H
            obtain ⟨hcz25_0, hcz25_1, hcz25_2, hcz25_3, hcz25_4, hfz25_0, hfz25_1, hfz25_2, hfz25_3, hfz25_4⟩ := cf5 BK262.out
            go_wp2
            go_meet
            case rel => exact ⟨_, (false), (by first | rfl | (simp; done) | (simp [*]; done)), H', ⟨by first | omega | exact Nat.le_refl _⟩, ⟨by (with_reducible repeat (first | refine kN ?_ _ | refine kD ?_ | refine kA ?_ _)); exact BK262.out⟩, ⟨by repeat (first | (with_reducible first | exact HB.out | apply bA | apply bN | apply bD | refine bS ?_ GE262.out) | exact HB.out)⟩⟩
           ·
            replace c24 := Bool.eq_false_iff.mpr c24
            subst c24
            have H1 : (pascalineref02_Check.j0 k t263 (a0_3 != 0) a0_0 a0_1 a0_2 a0_3 a0_4) = some r := by rw [if_neg (show ¬ (false = true) by decide)] at H; exact H
            clear H
            have H := H1
            clear H1
            have H' := mK H
            clear H
            obtain ⟨hcz26_0, hcz26_1, hcz26_2, hcz26_3, hcz26_4, hfz26_0, hfz26_1, hfz26_2, hfz26_3, hfz26_4⟩ := cf5 BK262.out
            go_wp2
            go_meet
            case rel => exact ⟨_, ((a0_3 != 0)), (by first | rfl | (simp; done) | (simp [*]; done)), H', ⟨by first | omega | exact Nat.le_refl _⟩, ⟨by (with_reducible repeat (first | refine kN ?_ _ | refine kD ?_ | refine kA ?_ _)); exact BK262.out⟩, ⟨by repeat (first | (with_reducible first | exact HB.out | apply bA | apply bN | apply bD | refine bS ?_ GE262.out) | exact HB.out)⟩⟩
          ·
           replace c23 := Bool.eq_false_iff.mpr c23
           subst c23
           have H1 : (if a0_2 = 0 then (if t266 = true then (pascalineref02_Check.j0 k t263 false a0_0 a0_1 a0_2 a0_3 a0_4) else (pascalineref02_Check.j0 k t263 (a0_3 != 0) a0_0 a0_1 a0_2 a0_3 a0_4)) else (pascalineref02_Check.j0 k t263 true a0_0 a0_1 a0_2 a0_3 a0_4)) = some r := by rw [if_neg (show ¬ (false = true) by decide)] at H; exact H
           clear H
           have H := H1
           clear H1
           by_cases c27 : a0_2 = 0
           ·
            rw [if_pos c27] at H
            have c27b0 : (a0_2 == 0) = true := beq_iff_eq.mpr c27
            have c27b1 : (a0_2 != 0) = false := bR c27
            clear c27
            by_cases c28 : t266 = true
            ·
             subst c28
             have H1 : (pascalineref02_Check.j0 k t263 false a0_0 a0_1 a0_2 a0_3 a0_4) = some r := by rw [if_pos rfl] at H; exact H
             clear H
             have H := H1
             clear H1
             have H' := mK H
             clear H
             obtain ⟨hcz29_0, hcz29_1, hcz29_2, hcz29_3, hcz29_4, hfz29_0, hfz29_1, hfz29_2, hfz29_3, hfz29_4⟩ := cf5 BK262.out
             go_wp2
             go_meet
             case rel => exact ⟨_, (false), (by first | rfl | (simp; done) | (simp [*]; done)), H', ⟨by first | omega | exact Nat.le_refl _⟩, ⟨by (with_reducible repeat (first | refine kN ?_ _ | refine kD ?_ | refine kA ?_ _)); exact BK262.out⟩, ⟨by repeat (first | (with_reducible first | exact HB.out | apply bA | apply bN | apply bD | refine bS ?_ GE262.out) | exact HB.out)⟩⟩
            ·
             replace c28 := Bool.eq_false_iff.mpr c28
             subst c28
             have H1 : (pascalineref02_Check.j0 k t263 (a0_3 != 0) a0_0 a0_1 a0_2 a0_3 a0_4) = some r := by rw [if_neg (show ¬ (false = true) by decide)] at H; exact H
             clear H
             have H := H1
             clear H1
             have H' := mK H
             clear H
             obtain ⟨hcz30_0, hcz30_1, hcz30_2, hcz30_3, hcz30_4, hfz30_0, hfz30_1, hfz30_2, hfz30_3, hfz30_4⟩ := cf5 BK262.out
             go_wp2
             go_meet
             case rel => exact ⟨_, ((a0_3 != 0)), (by first | rfl | (simp; done) | (simp [*]; done)), H', ⟨by first | omega | exact Nat.le_refl _⟩, ⟨by (with_reducible repeat (first | refine kN ?_ _ | refine kD ?_ | refine kA ?_ _)); exact BK262.out⟩, ⟨by repeat (first | (with_reducible first | exact HB.out | apply bA | apply bN | apply bD | refine bS ?_ GE262.out) | exact HB.out)⟩⟩
           ·
            rw [if_neg c27] at H
            have c27b0 : (a0_2 == 0) = false := bQ c27
            have c27b1 : (a0_2 != 0) = true := bne_iff_ne.mpr c27
            have H' := mK H
            clear H
            obtain ⟨hcz31_0, hcz31_1, hcz31_2, hcz31_3, hcz31_4, hfz31_0, hfz31_1, hfz31_2, hfz31_3, hfz31_4⟩ := cf5 BK262.out
            go_wp2
            go_meet
            case rel => exact ⟨_, (true), (by first | rfl | (simp; done) | (simp [*]; done)), H', ⟨by first | omega | exact Nat.le_refl _⟩, ⟨by (with_reducible repeat (first | refine kN ?_ _ | refine kD ?_ | refine kA ?_ _)); exact BK262.out⟩, ⟨by repeat (first | (with_reducible first | exact HB.out | apply bA | apply bN | apply bD | refine bS ?_ GE262.out) | exact HB.out)⟩⟩
         ·
          replace c22 := Bool.eq_false_iff.mpr c22
          subst c22
          have H1 : (if a0_1 = 0 then (if t265 = true then (if t266 = true then (pascalineref02_Check.j0 k t263 false a0_0 a0_1 a0_2 a0_3 a0_4) else (pascalineref02_Check.j0 k t263 (a0_3 != 0) a0_0 a0_1 a0_2 a0_3 a0_4)) else (if a0_2 = 0 then (if t266 = true then (pascalineref02_Check.j0 k t263 false a0_0 a0_1 a0_2 a0_3 a0_4) else (pascalineref02_Check.j0 k t263 (a0_3 != 0) a0_0 a0_1 a0_2 a0_3 a0_4)) else (pascalineref02_Check.j0 k t263 true a0_0 a0_1 a0_2 a0_3 a0_4))) else (pascalineref02_Check.j0 k t263 true a0_0 a0_1 a0_2 a0_3 a0_4)) = some r := by rw [if_neg (show ¬ (false = true) by decide)] at H; exact H
          clear H
          have H := H1
          clear H1
          by_cases c32 : a0_1 = 0
          ·
           rw [if_pos c32] at H
           have c32b0 : (a0_1 == 0) = true := beq_iff_eq.mpr c32
           have c32b1 : (a0_1 != 0) = false := bR c32
           clear c32
           by_cases c33 : t265 = true
           ·
            subst c33
            have H1 : (if t266 = true then (pascalineref02_Check.j0 k t263 false a0_0 a0_1 a0_2 a0_3 a0_4) else (pascalineref02_Check.j0 k t263 (a0_3 != 0) a0_0 a0_1 a0_2 a0_3 a0_4)) = some r := by rw [if_pos rfl] at H; exact H
            clear H
            have H := H1
            clear H1
            by_cases c34 : t266 = true
            ·
             subst c34
             have H1 : (pascalineref02_Check.j0 k t263 false a0_0 a0_1 a0_2 a0_3 a0_4) = some r := by rw [if_pos rfl] at H; exact H
             clear H
             have H := H1
             clear H1
             have H' := mK H
             clear H
             obtain ⟨hcz35_0, hcz35_1, hcz35_2, hcz35_3, hcz35_4, hfz35_0, hfz35_1, hfz35_2, hfz35_3, hfz35_4⟩ := cf5 BK262.out
             go_wp2
             go_meet
             case rel => exact ⟨_, (false), (by first | rfl | (simp; done) | (simp [*]; done)), H', ⟨by first | omega | exact Nat.le_refl _⟩, ⟨by (with_reducible repeat (first | refine kN ?_ _ | refine kD ?_ | refine kA ?_ _)); exact BK262.out⟩, ⟨by repeat (first | (with_reducible first | exact HB.out | apply bA | apply bN | apply bD | refine bS ?_ GE262.out) | exact HB.out)⟩⟩
            ·
             replace c34 := Bool.eq_false_iff.mpr c34
             subst c34
             have H1 : (pascalineref02_Check.j0 k t263 (a0_3 != 0) a0_0 a0_1 a0_2 a0_3 a0_4) = some r := by rw [if_neg (show ¬ (false = true) by decide)] at H; exact H
             clear H
             have H := H1
             clear H1
             have H' := mK H
             clear H
             obtain ⟨hcz36_0, hcz36_1, hcz36_2, hcz36_3, hcz36_4, hfz36_0, hfz36_1, hfz36_2, hfz36_3, hfz36_4⟩ := cf5 BK262.out
             go_wp2
             go_meet
             case rel => exact ⟨_, ((a0_3 != 0)), (by first | rfl | (simp; done) | (simp [*]; done)), H', ⟨by first | omega | exact Nat.le_refl _⟩, ⟨by (with_reducible repeat (first | refine kN ?_ _ | refine kD ?_ | refine kA ?_ _)); exact BK262.out⟩, ⟨by repeat (first | (with_reducible first | exact HB.out | apply bA | apply bN | apply bD | refine bS ?_ GE262.out) | exact HB.out)⟩⟩
           ·
            replace c33 := Bool.eq_false_iff.mpr c33
            subst c33
            have H1 : (if a0_2 = 0 then (if t266 = true then (pascalineref02_Check.j0 k t263 false a0_0 a0_1 a0_2 a0_3 a0_4) else (pascalineref02_Check.j0 k t263 (a0_3 != 0) a0_0 a0_1 a0_2 a0_3 a0_4)) else (pascalineref02_Check.j0 k t263 true a0_0 a0_1 a0_2 a0_3 a0_4)) = some r := by rw [if_neg (show ¬ (false = true) by decide)] at H; exact H
            clear H
            have H := H1
            clear H1
            by_cases c37 : a0_2 = 0
            ·
             rw [if_pos c37] at H
             have c37b0 : (a0_2 == 0) = true := beq_iff_eq.mpr c37
             have c37b1 : (a0_2 != 0) = false := bR c37
             clear c37
             by_cases c38 : t266 = true
             ·
              subst c38
              have H1 : (pascalineref02_Check.j0 k t263 false a0_0 a0_1 a0_2 a0_3 a0_4) = some r := by rw [if_pos rfl] at H; exact H
              clear H
              have H := H1
              clear H1
              have H' := mK H
              clear H
              obtain ⟨hcz39_0, hcz39_1, hcz39_2, hcz39_3, hcz39_4, hfz39_0, hfz39_1, hfz39_2, hfz39_3, hfz39_4⟩ := cf5 BK262.out
              go_wp2
              go_meet
              case rel => exact ⟨_, (false), (by first | rfl | (simp; done) | (simp [*]; done)), H', ⟨by first | omega | exact Nat.le_refl _⟩, ⟨by (with_reducible repeat (first | refine kN ?_ _ | refine kD ?_ | refine kA ?_ _)); exact BK262.out⟩, ⟨by repeat (first | (with_reducible first | exact HB.out | apply bA | apply bN | apply bD | refine bS ?_ GE262.out) | exact HB.out)⟩⟩
             ·
              replace c38 := Bool.eq_false_iff.mpr c38
              subst c38
              have H1 : (pascalineref02_Check.j0 k t263 (a0_3 != 0) a0_0 a0_1 a0_2 a0_3 a0_4) = some r := by rw [if_neg (show ¬ (false = true) by decide)] at H; exact H
              clear H
              have H := H1
              clear H1
              have H' := mK H
              clear H
              obtain ⟨hcz40_0, hcz40_1, hcz40_2, hcz40_3, hcz40_4, hfz40_0, hfz40_1, hfz40_2, hfz40_3, hfz40_4⟩ := cf5 BK262.out
              go_wp2
              go_meet
              case rel => exact ⟨_, ((a0_3 != 0)), (by first | rfl | (simp; done) | (simp [*]; done)), H', ⟨by first | omega | exact Nat.le_refl _⟩, ⟨by (with_reducible repeat (first | refine kN ?_ _ | refine kD ?_ | refine kA ?_ _)); exact BK262.out⟩, ⟨by repeat (first | (with_reducible first | exact HB.out | apply bA | apply bN | apply bD | refine bS ?_ GE262.out) | exact HB.out)⟩⟩
            ·
             rw [if_neg c37] at H
             have c37b0 : (a0_2 == 0) = false := bQ c37
             have c37b1 : (a0_2 != 0) = true := bne_iff_ne.mpr c37
             have H' := mK H
             clear H
             obtain ⟨hcz41_0, hcz41_1, hcz41_2, hcz41_3, hcz41_4, hfz41_0, hfz41_1, hfz41_2, hfz41_3, hfz41_4⟩ := cf5 BK262.out
             go_wp2
             go_meet
             case rel => exact ⟨_, (true), (by first | rfl | (simp; done) | (simp [*]; done)), H', ⟨by first | omega | exact Nat.le_refl _⟩, ⟨by (with_reducible repeat (first | refine kN ?_ _ | refine kD ?_ | refine kA ?_ _)); exact BK262.out⟩, ⟨by repeat (first | (with_reducible first | exact HB.out | apply bA | apply bN | apply bD | refine bS ?_ GE262.out) | exact HB.out)⟩⟩
          ·
           rw [if_neg c32] at H
           have c32b0 : (a0_1 == 0) = false := bQ c32
           have c32b1 : (a0_1 != 0) = true := bne_iff_ne.mpr c32
           have H' := mK H
           clear H
           obtain ⟨hcz42_0, hcz42_1, hcz42_2, hcz42_3, hcz42_4, hfz42_0, hfz42_1, hfz42_2, hfz42_3, hfz42_4⟩ := cf5 BK262.out
           go_wp2
           go_meet
           case rel => exact ⟨_, (true), (by first | rfl | (simp; done) | (simp [*]; done)), H', ⟨by first | omega | exact Nat.le_refl _⟩, ⟨by (with_reducible repeat (first | refine kN ?_ _ | refine kD ?_ | refine kA ?_ _)); exact BK262.out⟩, ⟨by repeat (first | (with_reducible first | exact HB.out | apply bA | apply bN | apply bD | refine bS ?_ GE262.out) | exact HB.out)⟩⟩
  case rest =>
   clear HC7
   (try clear c3); (try clear c3b0); (try clear hcz9_0); (try clear hcz9_1); (try clear hcz9_2); (try clear hcz9_3); (try clear hcz9_4); (try clear hfz9_0); (try clear hfz9_1); (try clear hfz9_2); (try clear hfz9_3); (try clear hfz9_4)
   obtain ⟨kq, x74_6, rfl, HA, HJ6, BK262, HB⟩ := hcut
   cases kq with
   | zero => exact absurd HA.out (by simp [pascalineref02_Check.j0])
   | succ kj6 =>
    have H := HA.out
    clear HA
    simp only [pascalineref02_Check.j0] at H
    by_cases c43 : x74_6 = true
    ·
     subst c43
     have H1 : (some 20) = some r := by rw [if_pos rfl] at H; exact H
     clear H
     have H := H1
     clear H1
     obtain rfl := Option.some.inj H
     go_wp2
     go_ret
     exact ⟨by first | rfl | (simp [errW_none, errW_some] <;> rfl) | (simp [*, errW_none, errW_some] <;> rfl), by repeat (first | (with_reducible first | exact HB.out | apply bA | apply bN | apply bD | refine bS ?_ GE262.out) | exact HB.out)⟩
    ·
     replace c43 := Bool.eq_false_iff.mpr c43
     subst c43
     have H1 : (if t263 = 1 then (pascalineref02_Check.j1 kj6 0 0 t263 (t263 == 1) a0_0 a0_1 a0_2 a0_3 a0_4) else (pascalineref02_Check.j1 kj6 0 0 t263 (t263 == 3) a0_0 a0_1 a0_2 a0_3 a0_4)) = some r := by rw [if_neg (show ¬ (false = true) by decide)] at H; exact H
     clear H
     have H := H1
     clear H1
     have HC44 := mK H
     clear H
     go_upto_if 76 with (fail)
     go_cut [76] (fun v76 wc => ∃ (kq : Nat) (x76_43 : Bool), v76 = .bool x76_43 ∧ Aside0 (pascalineref02_Check.j1 kq 0 0 t263 x76_43 a0_0 a0_1 a0_2 a0_3 a0_4 = some r) ∧ Aside0 (kq ≤ kj6) ∧ Aside0 (wc.heap[gb262]? = some (o5 a0_0 a0_1 a0_2 a0_3 a0_4 102)) ∧ Aside0 (Below w.heap.size w wc))
     case first =>
      have H := HC44.out
      clear HC44
      by_cases c45 : t263 = 1
      ·
       rw [if_pos c45] at H
       have c45b0 : (t263 == 1) = true := beq_iff_eq.mpr c45
       have c45b1 : (t263 != 1) = false := bR c45
       clear c45
       (first | rw [c45b0] | (simp only [i64_w, i32_w]; rw [c45b0]) | skip)
       have H' := mK H
       clear H
       go_wp2
       go_meet
       case rel => exact ⟨_, ((t263 == 1)), (by first | rfl | (simp; done) | (simp [*]; done)), H', ⟨by have := HJ6.out; first | omega | exact Nat.le_refl _⟩, ⟨by (with_reducible repeat (first | refine kN ?_ _ | refine kD ?_ | refine kA ?_ _)); exact BK262.out⟩, ⟨by repeat (first | (with_reducible first | exact HB.out | apply bA | apply bN | apply bD | refine bS ?_ GE262.out) | exact HB.out)⟩⟩
      ·
       rw [if_neg c45] at H
       have c45b0 : (t263 == 1) = false := bQ c45
       have c45b1 : (t263 != 1) = true := bne_iff_ne.mpr c45
       (first | rw [c45b0] | (simp only [i64_w, i32_w]; rw [c45b0]) | skip)
       have H' := mK H
       clear H
       go_wp2
       go_meet
       case rel => exact ⟨_, ((t263 == 3)), (by first | rfl | (simp; done) | (simp [*]; done)), H', ⟨by have := HJ6.out; first | omega | exact Nat.le_refl _⟩, ⟨by (with_reducible repeat (first | refine kN ?_ _ | refine kD ?_ | refine kA ?_ _)); exact BK262.out⟩, ⟨by repeat (first | (with_reducible first | exact HB.out | apply bA | apply bN | apply bD | refine bS ?_ GE262.out) | exact HB.out)⟩⟩
     case rest =>
      clear HC44
      (try clear c3); (try clear c3b0); (try clear c43); (try clear hcz9_0); (try clear hcz9_1); (try clear hcz9_2); (try clear hcz9_3); (try clear hcz9_4); (try clear hfz9_0); (try clear hfz9_1); (try clear hfz9_2); (try clear hfz9_3); (try clear hfz9_4)
      obtain ⟨kq, x76_43, rfl, HA, HJ43, BK262, HB⟩ := hcut
      cases kq with
      | zero => exact absurd HA.out (by simp [pascalineref02_Check.j1])
      | succ kj43 =>
       have H := HA.out
       clear HA
       simp only [pascalineref02_Check.j1] at H
       by_cases c46 : x76_43 = true
       ·
        subst c46
        have H1 : (if a0_4 < (-32768) then (some 20) else (if a0_4 > 32767 then (some 20) else (some 0))) = some r := by rw [if_pos rfl] at H; exact H
        clear H
        have H := H1
        clear H1
        by_cases c47 : a0_4 < (-32768)
        ·
         rw [if_pos c47] at H
         have c47b0 : decide (a0_4 < (-32768)) = true := decide_eq_true c47
         clear c47
         obtain rfl := Option.some.inj H
         obtain ⟨hcz48_0, hcz48_1, hcz48_2, hcz48_3, hcz48_4, hfz48_0, hfz48_1, hfz48_2, hfz48_3, hfz48_4⟩ := cf5 BK262.out
         go_wp2
         go_ret
         exact ⟨by first | rfl | (simp [errW_none, errW_some] <;> rfl) | (simp [*, errW_none, errW_some] <;> rfl), by repeat (first | (with_reducible first | exact HB.out | apply bA | apply bN | apply bD | refine bS ?_ GE262.out) | exact HB.out)⟩
        ·
         rw [if_neg c47] at H
         have c47b0 : decide (a0_4 < (-32768)) = false := decide_eq_false c47
         clear c47
         by_cases c49 : a0_4 > 32767
         ·
          rw [if_pos c49] at H
          have c49b0 : decide (32767 < a0_4) = true := decide_eq_true c49
          clear c49
          obtain rfl := Option.some.inj H
          obtain ⟨hcz50_0, hcz50_1, hcz50_2, hcz50_3, hcz50_4, hfz50_0, hfz50_1, hfz50_2, hfz50_3, hfz50_4⟩ := cf5 BK262.out
          go_wp2
          go_ret
          exact ⟨by first | rfl | (simp [errW_none, errW_some] <;> rfl) | (simp [*, errW_none, errW_some] <;> rfl), by repeat (first | (with_reducible first | exact HB.out | apply bA | apply bN | apply bD | refine bS ?_ GE262.out) | exact HB.out)⟩
         ·
          rw [if_neg c49] at H
          have c49b0 : decide (32767 < a0_4) = false := decide_eq_false c49
          clear c49
          obtain rfl := Option.some.inj H
          obtain ⟨hcz51_0, hcz51_1, hcz51_2, hcz51_3, hcz51_4, hfz51_0, hfz51_1, hfz51_2, hfz51_3, hfz51_4⟩ := cf5 BK262.out
          go_wp2
          go_ret
          exact ⟨by first | rfl | (simp [errW_none, errW_some] <;> rfl) | (simp [*, errW_none, errW_some] <;> rfl), by repeat (first | (with_reducible first | exact HB.out | apply bA | apply bN | apply bD | refine bS ?_ GE262.out) | exact HB.out)⟩
       ·
        replace c46 := Bool.eq_false_iff.mpr c46
        subst c46
        have H1 : (if t263 = 2 then (pascalineref02_Check.j2 kj43 0 0 t263 (t263 == 2) a0_0 a0_1 a0_2 a0_3 a0_4) else (if t263 = 4 then (pascalineref02_Check.j2 kj43 0 0 t263 (t263 == 4) a0_0 a0_1 a0_2 a0_3 a0_4) else (pascalineref02_Check.j2 kj43 0 0 t263 (t263 == 8) a0_0 a0_1 a0_2 a0_3 a0_4))) = some r := by rw [if_neg (show ¬ (false = true) by decide)] at H; exact H
        clear H
        have H := H1
        clear H1
        have HC52 := mK H
        clear H
        go_upto_if 79 with (fail)
        go_cut [79] (fun v79 wc => ∃ (kq : Nat) (x79_51 : Bool), v79 = .bool x79_51 ∧ Aside0 (pascalineref02_Check.j2 kq 0 0 t263 x79_51 a0_0 a0_1 a0_2 a0_3 a0_4 = some r) ∧ Aside0 (kq ≤ kj43) ∧ Aside0 (wc.heap[gb262]? = some (o5 a0_0 a0_1 a0_2 a0_3 a0_4 102)) ∧ Aside0 (Below w.heap.size w wc))
        case first =>
         have H := HC52.out
         clear HC52
         by_cases c53 : t263 = 2
         ·
          rw [if_pos c53] at H
          have c53b0 : (t263 == 2) = true := beq_iff_eq.mpr c53
          have c53b1 : (t263 != 2) = false := bR c53
          clear c53
          (first | rw [c53b0] | (simp only [i64_w, i32_w]; rw [c53b0]) | skip)
          have H' := mK H
          clear H
          go_wp2
          go_meet
          case rel => exact ⟨_, ((t263 == 2)), (by first | rfl | (simp; done) | (simp [*]; done)), H', ⟨by have := HJ6.out; have := HJ43.out; first | omega | exact Nat.le_refl _⟩, ⟨by (with_reducible repeat (first | refine kN ?_ _ | refine kD ?_ | refine kA ?_ _)); exact BK262.out⟩, ⟨by repeat (first | (with_reducible first | exact HB.out | apply bA | apply bN | apply bD | refine bS ?_ GE262.out) | exact HB.out)⟩⟩
         ·
          rw [if_neg c53] at H
          have c53b0 : (t263 == 2) = false := bQ c53
          have c53b1 : (t263 != 2) = true := bne_iff_ne.mpr c53
          (first | rw [c53b0] | (simp only [i64_w, i32_w]; rw [c53b0]) | skip)
          by_cases c54 : t263 = 4
          ·
           rw [if_pos c54] at H
           have c54b0 : (t263 == 4) = true := beq_iff_eq.mpr c54
           have c54b1 : (t263 != 4) = false := bR c54
           clear c54
           have H' := mK H
           clear H
           go_wp2
           go_meet
           case rel => exact ⟨_, ((t263 == 4)), (by first | rfl | (simp; done) | (simp [*]; done)), H', ⟨by have := HJ6.out; have := HJ43.out; first | omega | exact Nat.le_refl _⟩, ⟨by (with_reducible repeat (first | refine kN ?_ _ | refine kD ?_ | refine kA ?_ _)); exact BK262.out⟩, ⟨by repeat (first | (with_reducible first | exact HB.out | apply bA | apply bN | apply bD | refine bS ?_ GE262.out) | exact HB.out)⟩⟩
          ·
           rw [if_neg c54] at H
           have c54b0 : (t263 == 4) = false := bQ c54
           have c54b1 : (t263 != 4) = true := bne_iff_ne.mpr c54
           have H' := mK H
           clear H
           go_wp2
           go_meet
           case rel => exact ⟨_, ((t263 == 8)), (by first | rfl | (simp; done) | (simp [*]; done)), H', ⟨by have := HJ6.out; have := HJ43.out; first | omega | exact Nat.le_refl _⟩, ⟨by (with_reducible repeat (first | refine kN ?_ _ | refine kD ?_ | refine kA ?_ _)); exact BK262.out⟩, ⟨by repeat (first | (with_reducible first | exact HB.out | apply bA | apply bN | apply bD | refine bS ?_ GE262.out) | exact HB.out)⟩⟩
        case rest =>
         clear HC52
         (try clear c3); (try clear c3b0); (try clear c43); (try clear c46); (try clear hcz9_0); (try clear hcz9_1); (try clear hcz9_2); (try clear hcz9_3); (try clear hcz9_4); (try clear hfz9_0); (try clear hfz9_1); (try clear hfz9_2); (try clear hfz9_3); (try clear hfz9_4)
         obtain ⟨kq, x79_51, rfl, HA, HJ51, BK262, HB⟩ := hcut
         cases kq with
         | zero => exact absurd HA.out (by simp [pascalineref02_Check.j2])
         | succ kj51 =>
          have H := HA.out
          clear HA
          simp only [pascalineref02_Check.j2] at H
          by_cases c55 : x79_51 = true
          ·
           subst c55
           have H1 : (if a0_4 < 0 then (some 20) else (if a0_4 > 65535 then (some 20) else (some 0))) = some r := by rw [if_pos rfl] at H; exact H
           clear H
           have H := H1
           clear H1
           by_cases c56 : a0_4 < 0
           ·
            rw [if_pos c56] at H
            have c56b0 : decide (a0_4 < 0) = true := decide_eq_true c56
            clear c56
            obtain rfl := Option.some.inj H
            obtain ⟨hcz57_0, hcz57_1, hcz57_2, hcz57_3, hcz57_4, hfz57_0, hfz57_1, hfz57_2, hfz57_3, hfz57_4⟩ := cf5 BK262.out
            go_wp2
            go_ret
            exact ⟨by first | rfl | (simp [errW_none, errW_some] <;> rfl) | (simp [*, errW_none, errW_some] <;> rfl), by repeat (first | (with_reducible first | exact HB.out | apply bA | apply bN | apply bD | refine bS ?_ GE262.out) | exact HB.out)⟩
           ·
            rw [if_neg c56] at H
            have c56b0 : decide (a0_4 < 0) = false := decide_eq_false c56
            clear c56
            by_cases c58 : a0_4 > 65535
            ·
             rw [if_pos c58] at H
             have c58b0 : decide (65535 < a0_4) = true := decide_eq_true c58
             clear c58
             obtain rfl := Option.some.inj H
             obtain ⟨hcz59_0, hcz59_1, hcz59_2, hcz59_3, hcz59_4, hfz59_0, hfz59_1, hfz59_2, hfz59_3, hfz59_4⟩ := cf5 BK262.out
             go_wp2
             go_ret
             exact ⟨by first | rfl | (simp [errW_none, errW_some] <;> rfl) | (simp [*, errW_none, errW_some] <;> rfl), by repeat (first | (with_reducible first | exact HB.out | apply bA | apply bN | apply bD | refine bS ?_ GE262.out) | exact HB.out)⟩
            ·
             rw [if_neg c58] at H
             have c58b0 : decide (65535 < a0_4) = false := decide_eq_false c58
             clear c58
             obtain rfl := Option.some.inj H
             obtain ⟨hcz60_0, hcz60_1, hcz60_2, hcz60_3, hcz60_4, hfz60_0, hfz60_1, hfz60_2, hfz60_3, hfz60_4⟩ := cf5 BK262.out
             go_wp2
             go_ret
             exact ⟨by first | rfl | (simp [errW_none, errW_some] <;> rfl) | (simp [*, errW_none, errW_some] <;> rfl), by repeat (first | (with_reducible first | exact HB.out | apply bA | apply bN | apply bD | refine bS ?_ GE262.out) | exact HB.out)⟩
          ·
           replace c55 := Bool.eq_false_iff.mpr c55
           subst c55
           have H1 : (if t263 = 7 then (if a0_4 < (-8388608) then (some 20) else (if a0_4 > 8388607 then (some 20) else (some 0))) else (if a0_4 < 0 then (some 20) else (if a0_4 > 0 then (some 20) else (some 0)))) = some r := by rw [if_neg (show ¬ (false = true) by decide)] at H; exact H
           clear H
           have H := H1
           clear H1
           by_cases c61 : t263 = 7
           ·
            rw [if_pos c61] at H
            have c61b0 : (t263 == 7) = true := beq_iff_eq.mpr c61
            have c61b1 : (t263 != 7) = false := bR c61
            clear c61
            by_cases c62 : a0_4 < (-8388608)
            ·
             rw [if_pos c62] at H
             have c62b0 : decide (a0_4 < (-8388608)) = true := decide_eq_true c62
             clear c62
             obtain rfl := Option.some.inj H
             obtain ⟨hcz63_0, hcz63_1, hcz63_2, hcz63_3, hcz63_4, hfz63_0, hfz63_1, hfz63_2, hfz63_3, hfz63_4⟩ := cf5 BK262.out
             go_wp2
             go_ret
             exact ⟨by first | rfl | (simp [errW_none, errW_some] <;> rfl) | (simp [*, errW_none, errW_some] <;> rfl), by repeat (first | (with_reducible first | exact HB.out | apply bA | apply bN | apply bD | refine bS ?_ GE262.out) | exact HB.out)⟩
            ·
             rw [if_neg c62] at H
             have c62b0 : decide (a0_4 < (-8388608)) = false := decide_eq_false c62
             clear c62
             by_cases c64 : a0_4 > 8388607
             ·
              rw [if_pos c64] at H
              have c64b0 : decide (8388607 < a0_4) = true := decide_eq_true c64
              clear c64
              obtain rfl := Option.some.inj H
              obtain ⟨hcz65_0, hcz65_1, hcz65_2, hcz65_3, hcz65_4, hfz65_0, hfz65_1, hfz65_2, hfz65_3, hfz65_4⟩ := cf5 BK262.out
              go_wp2
              go_ret
              exact ⟨by first | rfl | (simp [errW_none, errW_some] <;> rfl) | (simp [*, errW_none, errW_some] <;> rfl), by repeat (first | (with_reducible first | exact HB.out | apply bA | apply bN | apply bD | refine bS ?_ GE262.out) | exact HB.out)⟩
             ·
              rw [if_neg c64] at H
              have c64b0 : decide (8388607 < a0_4) = false := decide_eq_false c64
              clear c64
              obtain rfl := Option.some.inj H
              obtain ⟨hcz66_0, hcz66_1, hcz66_2, hcz66_3, hcz66_4, hfz66_0, hfz66_1, hfz66_2, hfz66_3, hfz66_4⟩ := cf5 BK262.out
              go_wp2
              go_ret
              exact ⟨by first | rfl | (simp [errW_none, errW_some] <;> rfl) | (simp [*, errW_none, errW_some] <;> rfl), by repeat (first | (with_reducible first | exact HB.out | apply bA | apply bN | apply bD | refine bS ?_ GE262.out) | exact HB.out)⟩
           ·
            rw [if_neg c61] at H
            have c61b0 : (t263 == 7) = false := bQ c61
            have c61b1 : (t263 != 7) = true := bne_iff_ne.mpr c61
            by_cases c67 : a0_4 < 0
            ·
             rw [if_pos c67] at H
             have c67b0 : decide (a0_4 < 0) = true := decide_eq_true c67
             clear c67
             obtain rfl := Option.some.inj H
             obtain ⟨hcz68_0, hcz68_1, hcz68_2, hcz68_3, hcz68_4, hfz68_0, hfz68_1, hfz68_2, hfz68_3, hfz68_4⟩ := cf5 BK262.out
             go_wp2
             go_ret
             exact ⟨by first | rfl | (simp [errW_none, errW_some] <;> rfl) | (simp [*, errW_none, errW_some] <;> rfl), by repeat (first | (with_reducible first | exact HB.out | apply bA | apply bN | apply bD | refine bS ?_ GE262.out) | exact HB.out)⟩
            ·
             rw [if_neg c67] at H
             have c67b0 : decide (a0_4 < 0) = false := decide_eq_false c67
             clear c67
             by_cases c69 : a0_4 > 0
             ·
              rw [if_pos c69] at H
              have c69b0 : decide (0 < a0_4) = true := decide_eq_true c69
              clear c69
              obtain rfl := Option.some.inj H
              obtain ⟨hcz70_0, hcz70_1, hcz70_2, hcz70_3, hcz70_4, hfz70_0, hfz70_1, hfz70_2, hfz70_3, hfz70_4⟩ := cf5 BK262.out
              go_wp2
              go_ret
              exact ⟨by first | rfl | (simp [errW_none, errW_some] <;> rfl) | (simp [*, errW_none, errW_some] <;> rfl), by repeat (first | (with_reducible first | exact HB.out | apply bA | apply bN | apply bD | refine bS ?_ GE262.out) | exact HB.out)⟩
             ·
              rw [if_neg c69] at H
              have c69b0 : decide (0 < a0_4) = false := decide_eq_false c69
              clear c69
              obtain rfl := Option.some.inj H
              obtain ⟨hcz71_0, hcz71_1, hcz71_2, hcz71_3, hcz71_4, hfz71_0, hfz71_1, hfz71_2, hfz71_3, hfz71_4⟩ := cf5 BK262.out
              go_wp2
              go_ret
              exact ⟨by first | rfl | (simp [errW_none, errW_some] <;> rfl) | (simp [*, errW_none, errW_some] <;> rfl), by repeat (first | (with_reducible first | exact HB.out | apply bA | apply bN | apply bD | refine bS ?_ GE262.out) | exact HB.out)⟩


/-! ### pascalineref02_Encode: function 52 -/
def pascalineref02_Encode.f (k : Nat) (a0_0 : Int) (a0_1 : Int) (a0_2 : Int) (a0_3 : Int) (a0_4 : Int) : Option (Int × Int) := (pascalineref02_Check.f k a0_0 a0_1 a0_2 a0_3 a0_4).bind fun t268 => (if t268 = 0 then ((pascalineref02_Shape.f k a0_0).bind fun t269 => (if t269 = 7 then (some ((wrap64 ((wrap64 (a0_0 * 16777216)) + (Int.tmod (wrap64 (a0_4 + 16777216)) 16777216))) % 4294967296, 0)) else (some ((wrap64 ((wrap64 ((wrap64 ((wrap64 ((wrap64 (a0_0 * 16777216)) + (wrap64 (a0_1 * 1048576)))) + (wrap64 (a0_2 * 65536)))) + (Int.tmod (wrap64 (a0_4 + 65536)) 65536))) + a0_3)) % 4294967296, 0)))) else (some (0, t268)))
theorem pascalineref02_Encode.mono : ∀ a0 a1 a2 a3 a4 k, LeO (pascalineref02_Encode.f k a0 a1 a2 a3 a4) (pascalineref02_Encode.f (k + 1) a0 a1 a2 a3 a4) := by
 intro a0 a1 a2 a3 a4 k
 unfold pascalineref02_Encode.f
 repeat' first
  | (with_reducible exact pascalineref02_Check.mono _ _ _ _ _ _)
  | (with_reducible exact pascalineref02_Shape.mono _ _)
  | (with_reducible exact LeO.refl _)
  | (with_reducible exact LeO.none _)
  | (with_reducible refine LeO.ite ?_ ?_)
  | (with_reducible refine LeO.bind ?_ (fun _ => ?_))
  | exact LeO.none _
  | refine LeO.ite ?_ ?_
  | refine LeO.bind ?_ (fun _ => ?_)
set_option maxHeartbeats 8000000 in
set_option maxRecDepth 100000 in
theorem pascalineref02_Encode.calls (k : Nat) (a0_0 : Int) (a0_1 : Int) (a0_2 : Int) (a0_3 : Int) (a0_4 : Int) (r1 : Int) (r2 : Int) (w : World) (h : pascalineref02_Encode.f k a0_0 a0_1 a0_2 a0_3 a0_4 = some (r1, r2)) :
 Calls Try.prog 52 #[.agg #[.int .i64 a0_0, .int .i64 a0_1, .int .i64 a0_2, .int .i64 a0_3, .int .i64 a0_4]] w fun e w' => e = .returned (.tuple #[.int .u32 r1, .int .i64 r2]) ∧ Below w.heap.size w w' := by
 have hu102 := Try.underlying102
 have HB := mK (Below.refl w.heap.size w)
 have H : ((pascalineref02_Check.f k a0_0 a0_1 a0_2 a0_3 a0_4).bind fun t268 => (if t268 = 0 then ((pascalineref02_Shape.f k a0_0).bind fun t269 => (if t269 = 7 then (some ((wrap64 ((wrap64 (a0_0 * 16777216)) + (Int.tmod (wrap64 (a0_4 + 16777216)) 16777216))) % 4294967296, 0)) else (some ((wrap64 ((wrap64 ((wrap64 ((wrap64 ((wrap64 (a0_0 * 16777216)) + (wrap64 (a0_1 * 1048576)))) + (wrap64 (a0_2 * 65536)))) + (Int.tmod (wrap64 (a0_4 + 65536)) 65536))) + a0_3)) % 4294967296, 0)))) else (some (0, t268)))) = some (r1, r2) := h
 clear h
 replace H := oB H
 obtain ⟨t268, A20, H⟩ := H
 replace H : (if t268 = 0 then ((pascalineref02_Shape.f k a0_0).bind fun t269 => (if t269 = 7 then (some ((wrap64 ((wrap64 (a0_0 * 16777216)) + (Int.tmod (wrap64 (a0_4 + 16777216)) 16777216))) % 4294967296, 0)) else (some ((wrap64 ((wrap64 ((wrap64 ((wrap64 ((wrap64 (a0_0 * 16777216)) + (wrap64 (a0_1 * 1048576)))) + (wrap64 (a0_2 * 65536)))) + (Int.tmod (wrap64 (a0_4 + 65536)) 65536))) + a0_3)) % 4294967296, 0)))) else (some (0, t268))) = some (r1, r2) := H
 have A2 := mK A20
 clear A20
 by_cases c3 : t268 = 0
 ·
  rw [if_pos c3] at H
  have c3b0 : (t268 == 0) = true := beq_iff_eq.mpr c3
  have c3b1 : (t268 != 0) = false := bR c3
  clear c3
  replace H := oB H
  obtain ⟨t269, A40, H⟩ := H
  replace H : (if t269 = 7 then (some ((wrap64 ((wrap64 (a0_0 * 16777216)) + (Int.tmod (wrap64 (a0_4 + 16777216)) 16777216))) % 4294967296, 0)) else (some ((wrap64 ((wrap64 ((wrap64 ((wrap64 ((wrap64 (a0_0 * 16777216)) + (wrap64 (a0_1 * 1048576)))) + (wrap64 (a0_2 * 65536)))) + (Int.tmod (wrap64 (a0_4 + 65536)) 65536))) + a0_3)) % 4294967296, 0))) = some (r1, r2) := H
  have A4 := mK A40
  clear A40
  by_cases c5 : t269 = 7
  ·
   rw [if_pos c5] at H
   have c5b0 : (t269 == 7) = true := beq_iff_eq.mpr c5
   have c5b1 : (t269 != 7) = false := bR c5
   clear c5
   simp only [Option.some.injEq, Prod.mk.injEq] at H
   obtain ⟨rfl, rfl⟩ := H
   go_enter Try.func52, Try.ntmps52
   go_wp2_with (first | ((with_reducible refine gate_dst (N := 1) rfl ?_); refine box_event ?hg (N := 1) ?hd (cs := #[.int .i64 a0_0, .int .i64 a0_1, .int .i64 a0_2, .int .i64 a0_3, .int .i64 a0_4]) (t := 102) ?hr ?_; (case hd => rfl); (case hg => rfl); (case hr => first | (go_simp; done) | (go_simp; rfl)); intro gb267 hg w6 hbox hb; have n0_ := mK (bP (by repeat (first | (with_reducible first | exact HB.out | apply bA | apply bN | apply bD) | exact HB.out)) hb); have n1_ := mK (hbox); have n2_ := mK ((by rw [hg]; exact (bZ (by repeat (first | (with_reducible first | exact HB.out | apply bA | apply bN | apply bD) | exact HB.out))) : w.heap.size ≤ gb267)); have n3_ := mK ((by rw [hg]; exact (bZ (by repeat (first | (with_reducible first | exact HB.out | apply bA | apply bN | apply bD) | exact HB.out))) : w.heap.size ≤ gb267)); clear HB; have HB := n0_; have BK267 := n1_; have GW267 := n2_; have GE267 := n3_; clear n0_ n1_ n2_ n3_; clear hb hbox hg; obtain ⟨hcz7_0, hcz7_1, hcz7_2, hcz7_3, hcz7_4, hfz7_0, hfz7_1, hfz7_2, hfz7_3, hfz7_4⟩ := cf5 BK267.out) | ((with_reducible refine gate_callee (f := 53) rfl ?_); refine goesL_ (some 7) rfl rfl Try.func53 (by kernel_rfl) rfl #[.agg #[.int .i64 a0_0, .int .i64 a0_1, .int .i64 a0_2, .int .i64 a0_3, .int .i64 a0_4]] rfl (by (try simp only [List.map_toArray, List.map_cons, List.map_nil]); first | done | rfl) ?_; (with_reducible refine (pascalineref02_Check.calls k a0_0 a0_1 a0_2 a0_3 a0_4 t268 _ A2.out).mono ?_); rintro e w8 ⟨rfl, hb⟩; refine ⟨_, rfl, ?_⟩; have n0_ := mK (kB (g := gb267) (o := o5 a0_0 a0_1 a0_2 a0_3 a0_4 102) (by (with_reducible repeat (first | refine kN ?_ _ | refine kD ?_ | refine kA ?_ _)); exact BK267.out) hb); have n1_ := mK (bP (by repeat (first | (with_reducible first | exact HB.out | apply bA | apply bN | apply bD | refine bS ?_ GE267.out) | exact HB.out)) hb); clear BK267; clear HB; have BK267 := n0_; have HB := n1_; clear n0_ n1_; (try clear hb); obtain ⟨hcz9_0, hcz9_1, hcz9_2, hcz9_3, hcz9_4, hfz9_0, hfz9_1, hfz9_2, hfz9_3, hfz9_4⟩ := cf5 BK267.out) | ((with_reducible refine gate_callee (f := 49) rfl ?_); refine goesL_ (some 16) rfl rfl Try.func49 (by kernel_rfl) rfl #[.int .i64 a0_0] rfl (by (try simp only [List.map_toArray, List.map_cons, List.map_nil]); first | done | rfl) ?_; (with_reducible refine (pascalineref02_Shape.calls k a0_0 t269 _ A4.out).mono ?_); rintro e w' ⟨rfl, ⟨nd, rfl⟩⟩; refine ⟨_, rfl, ?_⟩))
   go_ret2
   exact ⟨by first | rfl | (simp [errW_none, errW_some] <;> rfl) | (simp [*, errW_none, errW_some] <;> rfl), by repeat (first | (with_reducible first | exact HB.out | apply bA | apply bN | apply bD | refine bS ?_ GE267.out) | exact HB.out)⟩
  ·
   rw [if_neg c5] at H
   have c5b0 : (t269 == 7) = false := bQ c5
   have c5b1 : (t269 != 7) = true := bne_iff_ne.mpr c5
   simp only [Option.some.injEq, Prod.mk.injEq] at H
   obtain ⟨rfl, rfl⟩ := H
   go_enter Try.func52, Try.ntmps52
   go_wp2_with (first | ((with_reducible refine gate_dst (N := 1) rfl ?_); refine box_event ?hg (N := 1) ?hd (cs := #[.int .i64 a0_0, .int .i64 a0_1, .int .i64 a0_2, .int .i64 a0_3, .int .i64 a0_4]) (t := 102) ?hr ?_; (case hd => rfl); (case hg => rfl); (case hr => first | (go_simp; done) | (go_simp; rfl)); intro gb267 hg w10 hbox hb; have n0_ := mK (bP (by repeat (first | (with_reducible first | exact HB.out | apply bA | apply bN | apply bD) | exact HB.out)) hb); have n1_ := mK (hbox); have n2_ := mK ((by rw [hg]; exact (bZ (by repeat (first | (with_reducible first | exact HB.out | apply bA | apply bN | apply bD) | exact HB.out))) : w.heap.size ≤ gb267)); have n3_ := mK ((by rw [hg]; exact (bZ (by repeat (first | (with_reducible first | exact HB.out | apply bA | apply bN | apply bD) | exact HB.out))) : w.heap.size ≤ gb267)); clear HB; have HB := n0_; have BK267 := n1_; have GW267 := n2_; have GE267 := n3_; clear n0_ n1_ n2_ n3_; clear hb hbox hg; obtain ⟨hcz11_0, hcz11_1, hcz11_2, hcz11_3, hcz11_4, hfz11_0, hfz11_1, hfz11_2, hfz11_3, hfz11_4⟩ := cf5 BK267.out) | ((with_reducible refine gate_callee (f := 53) rfl ?_); refine goesL_ (some 7) rfl rfl Try.func53 (by kernel_rfl) rfl #[.agg #[.int .i64 a0_0, .int .i64 a0_1, .int .i64 a0_2, .int .i64 a0_3, .int .i64 a0_4]] rfl (by (try simp only [List.map_toArray, List.map_cons, List.map_nil]); first | done | rfl) ?_; (with_reducible refine (pascalineref02_Check.calls k a0_0 a0_1 a0_2 a0_3 a0_4 t268 _ A2.out).mono ?_); rintro e w12 ⟨rfl, hb⟩; refine ⟨_, rfl, ?_⟩; have n0_ := mK (kB (g := gb267) (o := o5 a0_0 a0_1 a0_2 a0_3 a0_4 102) (by (with_reducible repeat (first | refine kN ?_ _ | refine kD ?_ | refine kA ?_ _)); exact BK267.out) hb); have n1_ := mK (bP (by repeat (first | (with_reducible first | exact HB.out | apply bA | apply bN | apply bD | refine bS ?_ GE267.out) | exact HB.out)) hb); clear BK267; clear HB; have BK267 := n0_; have HB := n1_; clear n0_ n1_; (try clear hb); obtain ⟨hcz13_0, hcz13_1, hcz13_2, hcz13_3, hcz13_4, hfz13_0, hfz13_1, hfz13_2, hfz13_3, hfz13_4⟩ := cf5 BK267.out) | ((with_reducible refine gate_callee (f := 49) rfl ?_); refine goesL_ (some 16) rfl rfl Try.func49 (by kernel_rfl) rfl #[.int .i64 a0_0] rfl (by (try simp only [List.map_toArray, List.map_cons, List.map_nil]); first | done | rfl) ?_; (with_reducible refine (pascalineref02_Shape.calls k a0_0 t269 _ A4.out).mono ?_); rintro e w' ⟨rfl, ⟨nd, rfl⟩⟩; refine ⟨_, rfl, ?_⟩))
   go_ret2
   exact ⟨by first | rfl | (simp [errW_none, errW_some] <;> rfl) | (simp [*, errW_none, errW_some] <;> rfl), by repeat (first | (with_reducible first | exact HB.out | apply bA | apply bN | apply bD | refine bS ?_ GE267.out) | exact HB.out)⟩
 ·
  rw [if_neg c3] at H
  have c3b0 : (t268 == 0) = false := bQ c3
  have c3b1 : (t268 != 0) = true := bne_iff_ne.mpr c3
  simp only [Option.some.injEq, Prod.mk.injEq] at H
  obtain ⟨rfl, rfl⟩ := H
  go_enter Try.func52, Try.ntmps52
  go_wp2_with (first | ((with_reducible refine gate_dst (N := 1) rfl ?_); refine box_event ?hg (N := 1) ?hd (cs := #[.int .i64 a0_0, .int .i64 a0_1, .int .i64 a0_2, .int .i64 a0_3, .int .i64 a0_4]) (t := 102) ?hr ?_; (case hd => rfl); (case hg => rfl); (case hr => first | (go_simp; done) | (go_simp; rfl)); intro gb267 hg w14 hbox hb; have n0_ := mK (bP (by repeat (first | (with_reducible first | exact HB.out | apply bA | apply bN | apply bD) | exact HB.out)) hb); have n1_ := mK (hbox); have n2_ := mK ((by rw [hg]; exact (bZ (by repeat (first | (with_reducible first | exact HB.out | apply bA | apply bN | apply bD) | exact HB.out))) : w.heap.size ≤ gb267)); have n3_ := mK ((by rw [hg]; exact (bZ (by repeat (first | (with_reducible first | exact HB.out | apply bA | apply bN | apply bD) | exact HB.out))) : w.heap.size ≤ gb267)); clear HB; have HB := n0_; have BK267 := n1_; have GW267 := n2_; have GE267 := n3_; clear n0_ n1_ n2_ n3_; clear hb hbox hg; obtain ⟨hcz15_0, hcz15_1, hcz15_2, hcz15_3, hcz15_4, hfz15_0, hfz15_1, hfz15_2, hfz15_3, hfz15_4⟩ := cf5 BK267.out) | ((with_reducible refine gate_callee (f := 53) rfl ?_); refine goesL_ (some 7) rfl rfl Try.func53 (by kernel_rfl) rfl #[.agg #[.int .i64 a0_0, .int .i64 a0_1, .int .i64 a0_2, .int .i64 a0_3, .int .i64 a0_4]] rfl (by (try simp only [List.map_toArray, List.map_cons, List.map_nil]); first | done | rfl) ?_; (with_reducible refine (pascalineref02_Check.calls k a0_0 a0_1 a0_2 a0_3 a0_4 t268 _ A2.out).mono ?_); rintro e w16 ⟨rfl, hb⟩; refine ⟨_, rfl, ?_⟩; have n0_ := mK (kB (g := gb267) (o := o5 a0_0 a0_1 a0_2 a0_3 a0_4 102) (by (with_reducible repeat (first | refine kN ?_ _ | refine kD ?_ | refine kA ?_ _)); exact BK267.out) hb); have n1_ := mK (bP (by repeat (first | (with_reducible first | exact HB.out | apply bA | apply bN | apply bD | refine bS ?_ GE267.out) | exact HB.out)) hb); clear BK267; clear HB; have BK267 := n0_; have HB := n1_; clear n0_ n1_; (try clear hb)))
  go_ret2
  exact ⟨by first | rfl | (simp [errW_none, errW_some] <;> rfl) | (simp [*, errW_none, errW_some] <;> rfl), by repeat (first | (with_reducible first | exact HB.out | apply bA | apply bN | apply bD | refine bS ?_ GE267.out) | exact HB.out)⟩

end Go.Proofs.Ytmebogkhdbbbbaa.P

-- Written by a program of this session (wip/tools/hp.py) out of the translation.
import Derived.Test.YtbhccjoodlldbaaPx0
import Derived.Test.YtbhccjoodlldbaaPx2
import Derived.Test.YtbhccjoodlldbaaPx5
import Derived.Test.YtbhccjoodlldbaaPx6
import Derived.Test.YtbhccjoodlldbaaPx7
namespace Go.Proofs.Ytbhccjoodlldbaa.P
open Go.RowKit Go.Proofs.YtbhccjoodlldbaaW.PrintWords Go.Proofs.YtbhccjoodlldbaaW.PrintLast Go.Proofs.YtbhccjoodlldbaaW.PrintMore
attribute [local go_sem] max2_int min2_int max_two min_two max_three min_three max_four min_four   -- for this text's walks alone
set_option linter.unusedVariables false
set_option linter.unusedSimpArgs false

/-! ### pascalinelaw33_CoverAdds: function 3 -/
mutual
def pascalinelaw33_CoverAdds.j0 : Nat → List Int → List Int → Bool → Int → Int → Int → Int → Int → List Int → List Int → Int → Int → Int → Int → List (S46) → Option (Bool)
 | 0, _, _, _, _, _, _, _, _, _, _, _, _, _, _, _ => none
 | k + 1, x1, x2, x25, x151000, x151001, x151002, x151003, x151004, x151005, x151006, x151007, x151008, x151009, x151010, x151011 => if x25 = true then (some true) else ((cover_Add.f k x1 x2).bind fun t154 => (if (t154.length : Int) = (mx (x1.length : Int) (x2.length : Int)) then (pascalinelaw33_CoverAdds.l0 k x1 x2 t154 0 x151000 x151001 x151002 x151003 x151004 x151005 x151006 x151007 x151008 x151009 x151010 x151011) else (some false)))
def pascalinelaw33_CoverAdds.l0 : Nat → List Int → List Int → List Int → Int → Int → Int → Int → Int → Int → List Int → List Int → Int → Int → Int → Int → List (S46) → Option (Bool)
 | 0, _, _, _, _, _, _, _, _, _, _, _, _, _, _, _, _ => none
 | k + 1, x1, x2, x7, x8, x151000, x151001, x151002, x151003, x151004, x151005, x151006, x151007, x151008, x151009, x151010, x151011 => if x8 < (x7.length : Int) then (if x8 < (x1.length : Int) then (if 0 ≤ x8 then (if (rd x1 x8) < 0 then (some true) else (pascalinelaw33_CoverAdds.j2 k x1 x2 x7 x8 (wrap64 (0 + (rd x1 x8))) x151000 x151001 x151002 x151003 x151004 x151005 x151006 x151007 x151008 x151009 x151010 x151011)) else (none)) else (pascalinelaw33_CoverAdds.j2 k x1 x2 x7 x8 0 x151000 x151001 x151002 x151003 x151004 x151005 x151006 x151007 x151008 x151009 x151010 x151011)) else ((cover_Parts.f k x151000 x151001 x151002 x151003 x151004 x151005 x151006 x151007 x151008 x151009 x151010 x151011 x1).bind fun t163 => ((cover_Parts.f k x151000 x151001 x151002 x151003 x151004 x151005 x151006 x151007 x151008 x151009 x151010 x151011 x2).bind fun t166 => ((cover_Parts.f k x151000 x151001 x151002 x151003 x151004 x151005 x151006 x151007 x151008 x151009 x151010 x151011 x7).bind fun t169 => (if (t163.length : Int) = (t169.length : Int) then (pascalinelaw33_CoverAdds.j3 k t163 t166 t169 ((t166.length : Int) != (t169.length : Int))) else (pascalinelaw33_CoverAdds.j3 k t163 t166 t169 true)))))
def pascalinelaw33_CoverAdds.j2 : Nat → List Int → List Int → List Int → Int → Int → Int → Int → Int → Int → Int → List Int → List Int → Int → Int → Int → Int → List (S46) → Option (Bool)
 | 0, _, _, _, _, _, _, _, _, _, _, _, _, _, _, _, _, _ => none
 | k + 1, x1, x2, x7, x8, x9, x151000, x151001, x151002, x151003, x151004, x151005, x151006, x151007, x151008, x151009, x151010, x151011 => if x8 < (x2.length : Int) then (if 0 ≤ x8 then (if (rd x2 x8) < 0 then (some true) else (if x8 < (x7.length : Int) then (if (rd x7 x8) = (wrap64 (x9 + (rd x2 x8))) then (pascalinelaw33_CoverAdds.l0 k x1 x2 x7 (wrap64 (x8 + 1)) x151000 x151001 x151002 x151003 x151004 x151005 x151006 x151007 x151008 x151009 x151010 x151011) else (some false)) else (none))) else (none)) else (if 0 ≤ x8 then (if x8 < (x7.length : Int) then (if (rd x7 x8) = x9 then (pascalinelaw33_CoverAdds.l0 k x1 x2 x7 (wrap64 (x8 + 1)) x151000 x151001 x151002 x151003 x151004 x151005 x151006 x151007 x151008 x151009 x151010 x151011) else (some false)) else (none)) else (none))
def pascalinelaw33_CoverAdds.j3 : Nat → List (S38) → List (S38) → List (S38) → Bool → Option (Bool)
 | 0, _, _, _, _ => none
 | k + 1, x10, x11, x12, x99 => if x99 = true then (some false) else (pascalinelaw33_CoverAdds.l1 k x10 x11 x12 1)
def pascalinelaw33_CoverAdds.l1 : Nat → List (S38) → List (S38) → List (S38) → Int → Option (Bool)
 | 0, _, _, _, _ => none
 | k + 1, x10, x11, x12, x13 => if x13 < (x12.length : Int) then (if 0 ≤ x13 then (if x13 < (x10.length : Int) then (if x13 < (x11.length : Int) then (if ((rd_T38 x12 x13).f3) = (wrap64 (((rd_T38 x10 x13).f3) + ((rd_T38 x11 x13).f3))) then (if ((rd_T38 x12 x13).f2) < ((rd_T38 x10 x13).f2) then (some false) else (if ((rd_T38 x12 x13).f2) < ((rd_T38 x11 x13).f2) then (some false) else (pascalinelaw33_CoverAdds.l1 k x10 x11 x12 (wrap64 (x13 + 1))))) else (some false)) else (none)) else (none)) else (none)) else (some true)
end
def pascalinelaw33_CoverAdds.f (k : Nat) (a0_0 : Int) (a0_1 : Int) (a0_2 : Int) (a0_3 : Int) (a0_4 : Int) (l0_5 : List Int) (l0_6 : List Int) (a0_7 : Int) (a0_8 : Int) (a0_9 : Int) (a0_10 : Int) (l0_11 : List (S46)) (l1 : List Int) (l2 : List Int) : Option (Bool) := (pascalinelaw33_awake.f k).bind fun t151 => (if t151 = true then ((pascalinelaw33_few.f k a0_0 a0_1 a0_2 a0_3 a0_4 l0_5 l0_6 a0_7 a0_8 a0_9 a0_10 l0_11 l1).bind fun t152 => (if t152 = true then ((pascalinelaw33_few.f k a0_0 a0_1 a0_2 a0_3 a0_4 l0_5 l0_6 a0_7 a0_8 a0_9 a0_10 l0_11 l2).bind fun t153 => (pascalinelaw33_CoverAdds.j0 k l1 l2 (!t153) a0_0 a0_1 a0_2 a0_3 a0_4 l0_5 l0_6 a0_7 a0_8 a0_9 a0_10 l0_11)) else (pascalinelaw33_CoverAdds.j0 k l1 l2 true a0_0 a0_1 a0_2 a0_3 a0_4 l0_5 l0_6 a0_7 a0_8 a0_9 a0_10 l0_11))) else (some false))
theorem pascalinelaw33_CoverAdds.mono_l : ∀ k, (∀ y0 y1 y2 y3 y4 y5 y6 y7 y8 y9 y10 y11 y12 y13 y14, LeO (pascalinelaw33_CoverAdds.j0 k y0 y1 y2 y3 y4 y5 y6 y7 y8 y9 y10 y11 y12 y13 y14) (pascalinelaw33_CoverAdds.j0 (k + 1) y0 y1 y2 y3 y4 y5 y6 y7 y8 y9 y10 y11 y12 y13 y14)) ∧ (∀ y0 y1 y2 y3 y4 y5 y6 y7 y8 y9 y10 y11 y12 y13 y14 y15, LeO (pascalinelaw33_CoverAdds.l0 k y0 y1 y2 y3 y4 y5 y6 y7 y8 y9 y10 y11 y12 y13 y14 y15) (pascalinelaw33_CoverAdds.l0 (k + 1) y0 y1 y2 y3 y4 y5 y6 y7 y8 y9 y10 y11 y12 y13 y14 y15)) ∧ (∀ y0 y1 y2 y3 y4 y5 y6 y7 y8 y9 y10 y11 y12 y13 y14 y15 y16, LeO (pascalinelaw33_CoverAdds.j2 k y0 y1 y2 y3 y4 y5 y6 y7 y8 y9 y10 y11 y12 y13 y14 y15 y16) (pascalinelaw33_CoverAdds.j2 (k + 1) y0 y1 y2 y3 y4 y5 y6 y7 y8 y9 y10 y11 y12 y13 y14 y15 y16)) ∧ (∀ y0 y1 y2 y3, LeO (pascalinelaw33_CoverAdds.j3 k y0 y1 y2 y3) (pascalinelaw33_CoverAdds.j3 (k + 1) y0 y1 y2 y3)) ∧ (∀ y0 y1 y2 y3, LeO (pascalinelaw33_CoverAdds.l1 k y0 y1 y2 y3) (pascalinelaw33_CoverAdds.l1 (k + 1) y0 y1 y2 y3))
 | 0 => ⟨fun _ _ _ _ _ _ _ _ _ _ _ _ _ _ _ r h => by simp [pascalinelaw33_CoverAdds.j0] at h, fun _ _ _ _ _ _ _ _ _ _ _ _ _ _ _ _ r h => by simp [pascalinelaw33_CoverAdds.l0] at h, fun _ _ _ _ _ _ _ _ _ _ _ _ _ _ _ _ _ r h => by simp [pascalinelaw33_CoverAdds.j2] at h, fun _ _ _ _ r h => by simp [pascalinelaw33_CoverAdds.j3] at h, fun _ _ _ _ r h => by simp [pascalinelaw33_CoverAdds.l1] at h⟩
 | k + 1 => by
  obtain ⟨ih0, ih1, ih2, ih3, ih4⟩ := pascalinelaw33_CoverAdds.mono_l k
  refine ⟨?_, ?_, ?_, ?_, ?_⟩
  ·
   intro y0 y1 y2 y3 y4 y5 y6 y7 y8 y9 y10 y11 y12 y13 y14
   unfold pascalinelaw33_CoverAdds.j0
   repeat' first
   | (with_reducible exact ih0 _ _ _ _ _ _ _ _ _ _ _ _ _ _ _)
   | (with_reducible exact ih1 _ _ _ _ _ _ _ _ _ _ _ _ _ _ _ _)
   | (with_reducible exact ih2 _ _ _ _ _ _ _ _ _ _ _ _ _ _ _ _ _)
   | (with_reducible exact ih3 _ _ _ _)
   | (with_reducible exact ih4 _ _ _ _)
   | (with_reducible exact cover_Add.mono _ _ _)
   | (with_reducible exact cover_Parts.mono _ _ _ _ _ _ _ _ _ _ _ _ _ _)
   | (with_reducible exact pascalinelaw33_awake.mono _)
   | (with_reducible exact pascalinelaw33_few.mono _ _ _ _ _ _ _ _ _ _ _ _ _ _)
   | (with_reducible exact LeO.refl _)
   | (with_reducible exact LeO.none _)
   | (with_reducible refine LeO.ite ?_ ?_)
   | (with_reducible refine LeO.bind ?_ (fun _ => ?_))
   | exact ih0 _ _ _ _ _ _ _ _ _ _ _ _ _ _ _
   | exact ih1 _ _ _ _ _ _ _ _ _ _ _ _ _ _ _ _
   | exact ih2 _ _ _ _ _ _ _ _ _ _ _ _ _ _ _ _ _
   | exact ih3 _ _ _ _
   | exact ih4 _ _ _ _
   | exact cover_Add.mono _ _ _
   | exact cover_Parts.mono _ _ _ _ _ _ _ _ _ _ _ _ _ _
   | exact pascalinelaw33_awake.mono _
   | exact pascalinelaw33_few.mono _ _ _ _ _ _ _ _ _ _ _ _ _ _
   | exact LeO.none _
   | refine LeO.ite ?_ ?_
   | refine LeO.bind ?_ (fun _ => ?_)
  ·
   intro y0 y1 y2 y3 y4 y5 y6 y7 y8 y9 y10 y11 y12 y13 y14 y15
   unfold pascalinelaw33_CoverAdds.l0
   repeat' first
   | (with_reducible exact ih0 _ _ _ _ _ _ _ _ _ _ _ _ _ _ _)
   | (with_reducible exact ih1 _ _ _ _ _ _ _ _ _ _ _ _ _ _ _ _)
   | (with_reducible exact ih2 _ _ _ _ _ _ _ _ _ _ _ _ _ _ _ _ _)
   | (with_reducible exact ih3 _ _ _ _)
   | (with_reducible exact ih4 _ _ _ _)
   | (with_reducible exact cover_Add.mono _ _ _)
   | (with_reducible exact cover_Parts.mono _ _ _ _ _ _ _ _ _ _ _ _ _ _)
   | (with_reducible exact pascalinelaw33_awake.mono _)
   | (with_reducible exact pascalinelaw33_few.mono _ _ _ _ _ _ _ _ _ _ _ _ _ _)
   | (with_reducible exact LeO.refl _)
   | (with_reducible exact LeO.none _)
   | (with_reducible refine LeO.ite ?_ ?_)
   | (with_reducible refine LeO.bind ?_ (fun _ => ?_))
   | exact ih0 _ _ _ _ _ _ _ _ _ _ _ _ _ _ _
   | exact ih1 _ _ _ _ _ _ _ _ _ _ _ _ _ _ _ _
   | exact ih2 _ _ _ _ _ _ _ _ _ _ _ _ _ _ _ _ _
   | exact ih3 _ _ _ _
   | exact ih4 _ _ _ _
   | exact cover_Add.mono _ _ _
   | exact cover_Parts.mono _ _ _ _ _ _ _ _ _ _ _ _ _ _
   | exact pascalinelaw33_awake.mono _
   | exact pascalinelaw33_few.mono _ _ _ _ _ _ _ _ _ _ _ _ _ _
   | exact LeO.none _
   | refine LeO.ite ?_ ?_
   | refine LeO.bind ?_ (fun _ => ?_)
  ·
   intro y0 y1 y2 y3 y4 y5 y6 y7 y8 y9 y10 y11 y12 y13 y14 y15 y16
   unfold pascalinelaw33_CoverAdds.j2
   repeat' first
   | (with_reducible exact ih0 _ _ _ _ _ _ _ _ _ _ _ _ _ _ _)
   | (with_reducible exact ih1 _ _ _ _ _ _ _ _ _ _ _ _ _ _ _ _)
   | (with_reducible exact ih2 _ _ _ _ _ _ _ _ _ _ _ _ _ _ _ _ _)
   | (with_reducible exact ih3 _ _ _ _)
   | (with_reducible exact ih4 _ _ _ _)
   | (with_reducible exact cover_Add.mono _ _ _)
   | (with_reducible exact cover_Parts.mono _ _ _ _ _ _ _ _ _ _ _ _ _ _)
   | (with_reducible exact pascalinelaw33_awake.mono _)
   | (with_reducible exact pascalinelaw33_few.mono _ _ _ _ _ _ _ _ _ _ _ _ _ _)
   | (with_reducible exact LeO.refl _)
   | (with_reducible exact LeO.none _)
   | (with_reducible refine LeO.ite ?_ ?_)
   | (with_reducible refine LeO.bind ?_ (fun _ => ?_))
   | exact ih0 _ _ _ _ _ _ _ _ _ _ _ _ _ _ _
   | exact ih1 _ _ _ _ _ _ _ _ _ _ _ _ _ _ _ _
   | exact ih2 _ _ _ _ _ _ _ _ _ _ _ _ _ _ _ _ _
   | exact ih3 _ _ _ _
   | exact ih4 _ _ _ _
   | exact cover_Add.mono _ _ _
   | exact cover_Parts.mono _ _ _ _ _ _ _ _ _ _ _ _ _ _
   | exact pascalinelaw33_awake.mono _
   | exact pascalinelaw33_few.mono _ _ _ _ _ _ _ _ _ _ _ _ _ _
   | exact LeO.none _
   | refine LeO.ite ?_ ?_
   | refine LeO.bind ?_ (fun _ => ?_)
  ·
   intro y0 y1 y2 y3
   unfold pascalinelaw33_CoverAdds.j3
   repeat' first
   | (with_reducible exact ih0 _ _ _ _ _ _ _ _ _ _ _ _ _ _ _)
   | (with_reducible exact ih1 _ _ _ _ _ _ _ _ _ _ _ _ _ _ _ _)
   | (with_reducible exact ih2 _ _ _ _ _ _ _ _ _ _ _ _ _ _ _ _ _)
   | (with_reducible exact ih3 _ _ _ _)
   | (with_reducible exact ih4 _ _ _ _)
   | (with_reducible exact cover_Add.mono _ _ _)
   | (with_reducible exact cover_Parts.mono _ _ _ _ _ _ _ _ _ _ _ _ _ _)
   | (with_reducible exact pascalinelaw33_awake.mono _)
   | (with_reducible exact pascalinelaw33_few.mono _ _ _ _ _ _ _ _ _ _ _ _ _ _)
   | (with_reducible exact LeO.refl _)
   | (with_reducible exact LeO.none _)
   | (with_reducible refine LeO.ite ?_ ?_)
   | (with_reducible refine LeO.bind ?_ (fun _ => ?_))
   | exact ih0 _ _ _ _ _ _ _ _ _ _ _ _ _ _ _
   | exact ih1 _ _ _ _ _ _ _ _ _ _ _ _ _ _ _ _
   | exact ih2 _ _ _ _ _ _ _ _ _ _ _ _ _ _ _ _ _
   | exact ih3 _ _ _ _
   | exact ih4 _ _ _ _
   | exact cover_Add.mono _ _ _
   | exact cover_Parts.mono _ _ _ _ _ _ _ _ _ _ _ _ _ _
   | exact pascalinelaw33_awake.mono _
   | exact pascalinelaw33_few.mono _ _ _ _ _ _ _ _ _ _ _ _ _ _
   | exact LeO.none _
   | refine LeO.ite ?_ ?_
   | refine LeO.bind ?_ (fun _ => ?_)
  ·
   intro y0 y1 y2 y3
   unfold pascalinelaw33_CoverAdds.l1
   repeat' first
   | (with_reducible exact ih0 _ _ _ _ _ _ _ _ _ _ _ _ _ _ _)
   | (with_reducible exact ih1 _ _ _ _ _ _ _ _ _ _ _ _ _ _ _ _)
   | (with_reducible exact ih2 _ _ _ _ _ _ _ _ _ _ _ _ _ _ _ _ _)
   | (with_reducible exact ih3 _ _ _ _)
   | (with_reducible exact ih4 _ _ _ _)
   | (with_reducible exact cover_Add.mono _ _ _)
   | (with_reducible exact cover_Parts.mono _ _ _ _ _ _ _ _ _ _ _ _ _ _)
   | (with_reducible exact pascalinelaw33_awake.mono _)
   | (with_reducible exact pascalinelaw33_few.mono _ _ _ _ _ _ _ _ _ _ _ _ _ _)
   | (with_reducible exact LeO.refl _)
   | (with_reducible exact LeO.none _)
   | (with_reducible refine LeO.ite ?_ ?_)
   | (with_reducible refine LeO.bind ?_ (fun _ => ?_))
   | exact ih0 _ _ _ _ _ _ _ _ _ _ _ _ _ _ _
   | exact ih1 _ _ _ _ _ _ _ _ _ _ _ _ _ _ _ _
   | exact ih2 _ _ _ _ _ _ _ _ _ _ _ _ _ _ _ _ _
   | exact ih3 _ _ _ _
   | exact ih4 _ _ _ _
   | exact cover_Add.mono _ _ _
   | exact cover_Parts.mono _ _ _ _ _ _ _ _ _ _ _ _ _ _
   | exact pascalinelaw33_awake.mono _
   | exact pascalinelaw33_few.mono _ _ _ _ _ _ _ _ _ _ _ _ _ _
   | exact LeO.none _
   | refine LeO.ite ?_ ?_
   | refine LeO.bind ?_ (fun _ => ?_)
theorem pascalinelaw33_CoverAdds.mono : ∀ a0 a1 a2 a3 a4 a5 a6 a7 a8 a9 a10 a11 a12 a13 k, LeO (pascalinelaw33_CoverAdds.f k a0 a1 a2 a3 a4 a5 a6 a7 a8 a9 a10 a11 a12 a13) (pascalinelaw33_CoverAdds.f (k + 1) a0 a1 a2 a3 a4 a5 a6 a7 a8 a9 a10 a11 a12 a13) := by
 intro a0 a1 a2 a3 a4 a5 a6 a7 a8 a9 a10 a11 a12 a13 k
 obtain ⟨ih0, ih1, ih2, ih3, ih4⟩ := pascalinelaw33_CoverAdds.mono_l k
 unfold pascalinelaw33_CoverAdds.f
 repeat' first
   | (with_reducible exact ih0 _ _ _ _ _ _ _ _ _ _ _ _ _ _ _)
   | (with_reducible exact ih1 _ _ _ _ _ _ _ _ _ _ _ _ _ _ _ _)
   | (with_reducible exact ih2 _ _ _ _ _ _ _ _ _ _ _ _ _ _ _ _ _)
   | (with_reducible exact ih3 _ _ _ _)
   | (with_reducible exact ih4 _ _ _ _)
   | (with_reducible exact cover_Add.mono _ _ _)
   | (with_reducible exact cover_Parts.mono _ _ _ _ _ _ _ _ _ _ _ _ _ _)
   | (with_reducible exact pascalinelaw33_awake.mono _)
   | (with_reducible exact pascalinelaw33_few.mono _ _ _ _ _ _ _ _ _ _ _ _ _ _)
   | (with_reducible exact LeO.refl _)
   | (with_reducible exact LeO.none _)
   | (with_reducible refine LeO.ite ?_ ?_)
   | (with_reducible refine LeO.bind ?_ (fun _ => ?_))
   | exact ih0 _ _ _ _ _ _ _ _ _ _ _ _ _ _ _
   | exact ih1 _ _ _ _ _ _ _ _ _ _ _ _ _ _ _ _
   | exact ih2 _ _ _ _ _ _ _ _ _ _ _ _ _ _ _ _ _
   | exact ih3 _ _ _ _
   | exact ih4 _ _ _ _
   | exact cover_Add.mono _ _ _
   | exact cover_Parts.mono _ _ _ _ _ _ _ _ _ _ _ _ _ _
   | exact pascalinelaw33_awake.mono _
   | exact pascalinelaw33_few.mono _ _ _ _ _ _ _ _ _ _ _ _ _ _
   | exact LeO.none _
   | refine LeO.ite ?_ ?_
   | refine LeO.bind ?_ (fun _ => ?_)
def pascalinelaw33_CoverAdds.T22 : Bool × List (List Nat × List Nat) := (true, [([], []), ([], []), ([0, 1], [0, 1]), ([], []), ([], []), ([3, 4, 2], [3, 4]), ([], []), ([], []), ([6, 7, 5], [6, 7]), ([2, 8, 0, 1, 2], [2]), ([5, 9, 0, 1, 2, 3, 4, 5, 9], [5]), ([8, 10, 0, 1, 2, 3, 4, 5, 6, 7, 8, 9, 10], [8])])
def pascalinelaw33_CoverAdds.B22 : List Nat := [0, 0, 3, 0, 0, 31, 0, 0, 255, 511, 1023, 2047]
theorem pascalinelaw33_CoverAdds.tab22 : rtab .any (opsOf Try.f3 22) = pascalinelaw33_CoverAdds.T22 := by kernel_rfl
theorem pascalinelaw33_CoverAdds.bits22 : waitsOk pascalinelaw33_CoverAdds.T22.2 pascalinelaw33_CoverAdds.B22 = true := by kernel_rfl
def pascalinelaw33_CoverAdds.T28 : Bool × List (List Nat × List Nat) := (true, [([], []), ([], []), ([0, 1], [0, 1]), ([2], [2]), ([3], [3]), ([], []), ([], []), ([5, 6], [5, 6]), ([7], [7]), ([8], [8]), ([], []), ([], []), ([10, 11], [10, 11]), ([12], [12]), ([13], [13]), ([9, 14], [9, 14]), ([4, 15], [4, 15]), ([16], [16]), ([17], [17]), ([17], [17]), ([18, 19, 17], [17, 18, 19]), ([20, 17], [17, 20]), ([21, 17], [17, 21]), ([17], [17]), ([17], [17]), ([23, 24, 17], [17, 23, 24]), ([25, 17], [17, 25]), ([26, 17], [17, 26]), ([22, 27, 17], [17, 22, 27]), ([17, 28], [17, 28]), ([29, 17], [29]), ([30], [30]), ([30], [30]), ([31, 32, 30], [30, 31, 32]), ([33, 30], [30, 33]), ([34, 30], [30, 34]), ([30], [30]), ([30], [30]), ([36, 37, 30], [30, 36, 37]), ([38, 30], [30, 38]), ([39, 30], [30, 39]), ([35, 40, 30], [30, 35, 40]), ([30, 41], [30, 41])])
def pascalinelaw33_CoverAdds.B28 : List Nat := [0, 0, 3, 7, 15, 0, 0, 96, 224, 480, 0, 0, 3072, 7168, 15360, 32736, 65535, 131071, 262143, 262143, 1048575, 2097151, 4194303, 262143, 262143, 25427967, 58982399, 126091263, 268435455, 536870911, 1073741823, 2147483647, 2147483647, 8589934591, 17179869183, 34359738367, 2147483647, 2147483647, 208305913855, 483183820799, 1032939634687, 2199023255551, 4398046511103]
theorem pascalinelaw33_CoverAdds.tab28 : rtab .any (opsOf Try.f3 28) = pascalinelaw33_CoverAdds.T28 := by kernel_rfl
theorem pascalinelaw33_CoverAdds.bits28 : waitsOk pascalinelaw33_CoverAdds.T28.2 pascalinelaw33_CoverAdds.B28 = true := by kernel_rfl

end Go.Proofs.Ytbhccjoodlldbaa.P

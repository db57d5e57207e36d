-- Written by a program of this session (wip/tools/hp.py) out of the translation.
import Derived.Test.YtemkjnjfblliaaaPx0
import Derived.Test.YtemkjnjfblliaaaPx2
import Derived.Test.YtemkjnjfblliaaaPx3
import Derived.Test.YtemkjnjfblliaaaPx4
namespace Go.Proofs.Ytemkjnjfblliaaa.P
open Go.RowKit Go.Proofs.YtemkjnjfblliaaaW.PrintWords Go.Proofs.YtemkjnjfblliaaaW.PrintLast Go.Proofs.YtemkjnjfblliaaaW.PrintMore
attribute [local go_sem] max2_int min2_int max_two min_two max_three min_three max_four min_four   -- for this text's walks alone
set_option linter.unusedVariables false
set_option linter.unusedSimpArgs false

/-! ### pascalinelaw16_awake: function 7 -/
def pascalinelaw16_awake.f : Option Bool := some true
theorem pascalinelaw16_awake.found (a : Int) (r : Int) {w : World} {B : Nat} {v : Value} (h : ranges_Find.f [⟨0, -1⟩, ⟨3, 9⟩, ⟨5, -1⟩] a = some r) (hR : Kd.R k29 29 w B (fun _ => True) v [⟨0, -1⟩, ⟨3, 9⟩, ⟨5, -1⟩]) :
    Calls Try.prog 14 #[v, .int .i64 a] w fun e W => e = .returned (.int .i64 r) ∧ Below w.heap.size w W := by
  obtain ⟨A, c, rfl⟩ := Kd.R_slice hR
  exact ranges_Find.calls A c _ a r w (Kd.R_reads' hR).2.2 (Kd.R_reads' hR).2.1 h
set_option maxHeartbeats 1000000 in
set_option maxRecDepth 100000 in
theorem pascalinelaw16_awake.calls (r : Bool) (w : World) (h : pascalinelaw16_awake.f = some r) : Calls Try.prog 7 #[] w fun e w' => e = .returned (.bool r) ∧ Below w.heap.size w w' := by
  obtain rfl : r = true := by injection h with h; exact h.symm
  clear h
  have HB := Aside0.mk (ranges_Bld.new w w (Below.refl _ _))
  have e1 : ranges_Mark.of [] 0 (-1) = [⟨0, -1⟩] := by rfl
  have e2 : ranges_Mark.of [⟨0, -1⟩] 3 9 = [⟨0, -1⟩, ⟨3, 9⟩] := by rfl
  have e3 : ranges_Mark.of [⟨0, -1⟩, ⟨3, 9⟩] 5 (-1) = [⟨0, -1⟩, ⟨3, 9⟩, ⟨5, -1⟩] := by rfl
  have f1 : ranges_Find.f [⟨0, -1⟩, ⟨3, 9⟩, ⟨5, -1⟩] 4 = some 9 := by rfl
  have f2 : ranges_Find.f [⟨0, -1⟩, ⟨3, 9⟩, ⟨5, -1⟩] 5 = some (-1) := by rfl
  have E1 := Aside0.mk e1
  have E2 := Aside0.mk e2
  have E3 := Aside0.mk e3
  have F1 := Aside0.mk f1
  have F2 := Aside0.mk f2
  clear e1 e2 e3 f1 f2
  go_enter Try.func7, Try.ntmps7
  go_wp2_with (first
    | (go_at_call 9; ((with_reducible refine (ranges_Mark.does 0 (-1) HB.out (by simp)).mono ?_));  rintro e w1 ⟨rfl, A1, c1, hb⟩; rw [E1.out] at hb; clear HB; have HB := Aside0.mk hb; clear hb E1)
    | (go_at_call 9; ((with_reducible refine (ranges_Mark.does 3 9 HB.out (by simp)).mono ?_));  rintro e w2 ⟨rfl, A2, c2, hb⟩; rw [E2.out] at hb; clear HB; have HB := Aside0.mk hb; clear hb E2)
    | (go_at_call 9; ((with_reducible refine (ranges_Mark.does 5 (-1) HB.out (by simp)).mono ?_));  rintro e w3 ⟨rfl, A3, c3, hb⟩; rw [E3.out] at hb; clear HB; have HB := Aside0.mk hb; clear hb E3)
    | (go_at_call 12; ((with_reducible refine (ranges_List.calls HB.out (by simp)).mono ?_));  rintro e w4 ⟨v4, rfl, ho, hb⟩; have hb2 := ranges_Bld.below HB.out hb; clear HB; have HB := Aside0.mk hb2; have HO := Aside0.mk ho; clear ho hb hb2)
    | (go_at_call 14; ((with_reducible refine (pascalinelaw16_awake.found 4 9 F1.out HO.out).mono ?_));  rintro e w5 ⟨rfl, hb⟩; have hb2 := ranges_Bld.below HB.out hb; clear HB HO F1; have HB := Aside0.mk hb2; clear hb hb2)
    | (go_at_call 14; ((with_reducible refine (pascalinelaw16_awake.found 5 (-1) F2.out HO.out).mono ?_));  rintro e w6 ⟨rfl, hb⟩; have hb2 := ranges_Bld.below HB.out hb; clear HB HO F2; have HB := Aside0.mk hb2; clear hb hb2))
  go_ret
  exact ⟨rfl, HB.out.2.2.1⟩

end Go.Proofs.Ytemkjnjfblliaaa.P

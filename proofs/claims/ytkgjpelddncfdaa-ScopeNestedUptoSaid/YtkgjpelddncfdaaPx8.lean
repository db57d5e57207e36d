-- Written by a program of this session (wip/tools/hp.py) out of the translation.
import Derived.Test.YtkgjpelddncfdaaPx0
import Derived.Test.YtkgjpelddncfdaaPx2
import Derived.Test.YtkgjpelddncfdaaPx3
import Derived.Test.YtkgjpelddncfdaaPx5
import Derived.Test.YtkgjpelddncfdaaPx6
namespace Go.Proofs.Ytkgjpelddncfdaa.P
open Go.RowKit Go.Proofs.YtkgjpelddncfdaaW.PrintWords Go.Proofs.YtkgjpelddncfdaaW.PrintLast Go.Proofs.YtkgjpelddncfdaaW.PrintMore
attribute [local go_sem] max2_int min2_int max_two min_two max_three min_three max_four min_four   -- for this text's walks alone
set_option linter.unusedVariables false
set_option linter.unusedSimpArgs false

-- NOT PRINTED: function 10 (scope_Scopes_Open)

-- NOT PRINTED: function 20 (scope_New)

/-! ### pascalinelaw11_awake: function 6 -/
theorem IsS.new {base : Nat} {w : World} {g : Nat} {col : Nat → Nat} {D M : List (List S25)} (h : IsS base w g col D M) (k : Nat) (hk : w.heap.size ≤ k) : col k = 0 := by
  obtain ⟨_, _, _, _, _, _, _, _, _, h7, _⟩ := h
  cases e : col k with
  | zero => rfl
  | succ n => have := (h7 k (by omega)).2; omega
def aw_x : ByteArray := ⟨#[120]⟩
theorem aw_x_nm : aw_x.toList.isEmpty = false ∧ aw_x.size ≤ 32 := ⟨by rw [Go.ByteArray.toList_eq]; rfl, by decide⟩
def aw_1 : S25 := ⟨aw_x, 0, 0, 0, 1, 0, false, []⟩
def aw_2 : S25 := ⟨aw_x, 0, 0, 1, 2, 0, false, []⟩
theorem aw_is (x : S25) (h : x.f0 = aw_x) : sc_is aw_x x = true := by unfold sc_is; rw [h]; exact beq_self_eq_true _
theorem aw_ix (x : S25) (h : x.f0 = aw_x) : sc_ix [x] aw_x = 0 := by unfold sc_ix os_ix; rw [if_pos (aw_is x h)]
theorem aw_find2 : sc_find [[aw_1], [aw_2]] aw_x = (aw_2, 0) := by
  unfold sc_find
  show sc_got _ (sc_from _ _ 2) = _
  unfold sc_from
  rw [show ([[aw_1], [aw_2]] : List (List S25)).getD 1 [] = [aw_2] from rfl, aw_ix aw_2 rfl]
  rfl
theorem aw_find1 : sc_find [[aw_1]] aw_x = (aw_1, 0) := by
  unfold sc_find
  show sc_got _ (sc_from _ _ 1) = _
  unfold sc_from
  rw [show ([[aw_1]] : List (List S25)).getD 0 [] = [aw_1] from rfl, aw_ix aw_1 rfl]
  rfl
set_option maxRecDepth 100000 in
set_option maxHeartbeats 4000000 in
theorem sc_awake_calls (w : World) : Calls Try.prog 6 #[] w fun e w' => e = .returned (.bool true) ∧ Below w.heap.size w w' := by
  go_enter Try.func6, Try.ntmps6
  go_wp2_with (go_at_call 20; ((with_reducible refine (sc_New_calls _).mono ?_)); rintro e w1 ⟨g, c1, rfl, hI, hb⟩; have HB1 := Aside0.mk hb; have HI1 := Aside0.mk hI; clear hb hI)
  go_wp2_with (go_at_call 11; (refine (sc_Declare_yes HI1.out aw_x 0 0 0 1 0 false none 0 0 [] rfl (Kd.C_nil _ _) ⟨Nat.le_refl _, by decide⟩ aw_x_nm rfl (by decide)).mono ?_; rintro e w2 ⟨rfl, c2, hI, hk⟩; have HI2 := Aside0.mk (show IsS w.heap.size w2 g c2 [[aw_1]] [] from hI); have HB2 := Aside0.mk (HB1.out.trans hk.below); clear hI hk))
  go_wp2_with (go_at_call 10; (refine (sc_Open_yes HI2.out (by decide)).mono ?_; rintro e w3 ⟨rfl, c3, hI, hk⟩; have HI3 := Aside0.mk (show IsS w.heap.size w3 g c3 [[aw_1], []] [] from hI); have HB3 := Aside0.mk (HB2.out.trans hk.below); clear hI hk))
  go_wp2_with (go_at_call 11; (refine (sc_Declare_yes HI3.out aw_x 0 0 0 2 0 false none 0 0 [] rfl (Kd.C_nil _ _) ⟨Nat.le_refl _, by decide⟩ aw_x_nm rfl (by decide)).mono ?_; rintro e w4 ⟨rfl, c4, hI, hk⟩; have HI4 := Aside0.mk (show IsS w.heap.size w4 g c4 [[aw_1], [aw_2]] [] from hI); have HB4 := Aside0.mk (HB3.out.trans hk.below); clear hI hk))
  go_wp2_with (first
    | (go_at_call 8; (refine (sc_Find_calls HI4.out aw_x).mono ?_; rintro e w5 ⟨hf, hb⟩; rw [aw_find2] at hf; obtain ⟨A5, n5, rfl, -, -⟩ := hf; have HI5 := Aside0.mk (HI4.out.below hb); have HB5 := Aside0.mk (below_step HB4.out hb); clear hb; unfold sc_cells aw_2; dsimp only))
    | ((with_reducible refine gate_dst (N := 2) rfl ?_); refine box_event ?hg (N := 2) ?hd (cs := #[.string ⟨#[]⟩, .int .i64 0, .int .i64 0, .int .i64 0, .int .i32 0, .int .i64 0, .bool false, .slice none 0 0]) (t := 25) ?hr ?_; (case hd => rfl); (case hg => rfl); (case hr => first | (go_simp; done) | (go_simp; rfl)); intro b1 hg1 w6 hbox1 hb1; have HI6 := Aside0.mk (HI5.out.below hb1); have HB6 := Aside0.mk (below_step HB5.out hb1); have HX6 := Aside0.mk hbox1; have HG6 := Aside0.mk (show b1 = w5.heap.size from hg1); have HB56 := Aside0.mk hb1; have fa0 := blk_frozen hbox1 0; have ba0 : w6.cell? ⟨b1, 0, none⟩ = some _ := blk_cell hbox1 0; have fa1 := blk_frozen hbox1 1; have ba1 : w6.cell? ⟨b1, 1, none⟩ = some _ := blk_cell hbox1 1; have fa2 := blk_frozen hbox1 2; have ba2 : w6.cell? ⟨b1, 2, none⟩ = some _ := blk_cell hbox1 2; have fa3 := blk_frozen hbox1 3; have ba3 : w6.cell? ⟨b1, 3, none⟩ = some _ := blk_cell hbox1 3; have fa4 := blk_frozen hbox1 4; have ba4 : w6.cell? ⟨b1, 4, none⟩ = some _ := blk_cell hbox1 4; have fa5 := blk_frozen hbox1 5; have ba5 : w6.cell? ⟨b1, 5, none⟩ = some _ := blk_cell hbox1 5; have fa6 := blk_frozen hbox1 6; have ba6 : w6.cell? ⟨b1, 6, none⟩ = some _ := blk_cell hbox1 6; have fa7 := blk_frozen hbox1 7; have ba7 : w6.cell? ⟨b1, 7, none⟩ = some _ := blk_cell hbox1 7; clear hg1 hbox1 hb1))
  obtain ⟨W7, hW7⟩ : ∃ W7, ((((((((w6.setCell ⟨b1, 0, none⟩ (.string aw_x)).setCell ⟨b1, 1, none⟩ (.int .i64 0)).setCell ⟨b1, 2, none⟩ (.int .i64 0)).setCell ⟨b1, 3, none⟩ (.int .i64 1)).setCell ⟨b1, 4, none⟩ (.int .i32 2)).setCell ⟨b1, 5, none⟩ (.int .i64 0)).setCell ⟨b1, 6, none⟩ (.bool false)).setCell ⟨b1, 7, none⟩ (.slice A5 0 n5)) = W7 := ⟨_, rfl⟩
  have hb57 : Below w5.heap.size w5 W7 := by rw [← hW7]; exact sc_put8b HB56.out (Nat.le_of_eq HG6.out.symm) _ _ _ _ _ _ _ _
  have HX7 := Aside0.mk (show W7.heap[b1]? = some (.cells #[.string aw_x, .int .i64 0, .int .i64 0, .int .i64 1, .int .i32 2, .int .i64 0, .bool false, .slice A5 0 n5] 25 (0, 0)) by rw [← hW7]; exact sc_put8 HX6.out _ _ _ _ _ _ _ _)
  have HI7 := Aside0.mk (HI5.out.below hb57)
  have HB7 := Aside0.mk (below_step HB5.out hb57)
  have HC0 := Aside0.mk (HI5.out.new b1 (Nat.le_of_eq HG6.out.symm))
  rw [hW7]
  clear hW7 hb57 HX6 HI6 HB6 HG6 HB56 fa0 ba0 fa1 ba1 fa2 ba2 fa3 ba3 fa4 ba4 fa5 ba5 fa6 ba6 fa7 ba7
  go_wp2_with (first
    | (go_at_call 12; (refine (sc_Close_yes HI7.out (by decide)).mono ?_; rintro e w8 ⟨rfl, c8, hI, hk⟩; have HI8 := Aside0.mk (show IsS w.heap.size w8 g c8 [[aw_1]] [] from hI); have HB8 := Aside0.mk (HB7.out.trans hk.below); have HX8 := Aside0.mk ((hk.keep b1 (blk_lt HX7.out) HC0.out).trans HX7.out); clear hI hk))
    | (go_at_call 8; (refine (sc_Find_calls HI8.out aw_x).mono ?_; rintro e w9 ⟨hf, hb⟩; rw [aw_find1] at hf; obtain ⟨A9, n9, rfl, -, -⟩ := hf; have HB9 := Aside0.mk (below_step HB8.out hb); have HX9 := Aside0.mk (blk_below HX8.out hb); clear hb; unfold sc_cells aw_1; dsimp only))
    | ((with_reducible refine gate_dst (N := 4) rfl ?_); refine box_event ?hg (N := 4) ?hd (cs := #[.string ⟨#[]⟩, .int .i64 0, .int .i64 0, .int .i64 0, .int .i32 0, .int .i64 0, .bool false, .slice none 0 0]) (t := 25) ?hr ?_; (case hd => rfl); (case hg => rfl); (case hr => first | (go_simp; done) | (go_simp; rfl)); intro b2 hg2 wA hbox2 hb2; have HBA := Aside0.mk (below_step HB9.out hb2); have HG2 := Aside0.mk (show w.heap.size ≤ b2 by rw [hg2]; exact HB9.out.size); have hne : b1 ≠ b2 := (fun e => by have := blk_lt HX9.out; omega); have hne2 : b2 ≠ b1 := Ne.symm hne; have hx := blk_below HX9.out hb2; have x3 : wA.cell? ⟨b1, 3, none⟩ = some (.int .i64 1) := blk_cell hx 3; have x4 : wA.cell? ⟨b1, 4, none⟩ = some (.int .i32 2) := blk_cell hx 4; have fq0 := blk_frozen hbox2 0; have bq0 : wA.cell? ⟨b2, 0, none⟩ = some _ := blk_cell hbox2 0; have fq1 := blk_frozen hbox2 1; have bq1 : wA.cell? ⟨b2, 1, none⟩ = some _ := blk_cell hbox2 1; have fq2 := blk_frozen hbox2 2; have bq2 : wA.cell? ⟨b2, 2, none⟩ = some _ := blk_cell hbox2 2; have fq3 := blk_frozen hbox2 3; have bq3 : wA.cell? ⟨b2, 3, none⟩ = some _ := blk_cell hbox2 3; have fq4 := blk_frozen hbox2 4; have bq4 : wA.cell? ⟨b2, 4, none⟩ = some _ := blk_cell hbox2 4; have fq5 := blk_frozen hbox2 5; have bq5 : wA.cell? ⟨b2, 5, none⟩ = some _ := blk_cell hbox2 5; have fq6 := blk_frozen hbox2 6; have bq6 : wA.cell? ⟨b2, 6, none⟩ = some _ := blk_cell hbox2 6; have fq7 := blk_frozen hbox2 7; have bq7 : wA.cell? ⟨b2, 7, none⟩ = some _ := blk_cell hbox2 7; clear hx hg2 hbox2 hb2))
  go_ret
  exact ⟨rfl, sc_put8b HBA.out HG2.out _ _ _ _ _ _ _ _⟩

end Go.Proofs.Ytkgjpelddncfdaa.P

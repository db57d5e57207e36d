-- Written by a program of this session (wip/tools/hp.py) out of the translation.
import Derived.Test.YtkgjpelddncfdaaPx0
import Derived.Test.YtkgjpelddncfdaaPx6
namespace Go.Proofs.Ytkgjpelddncfdaa.P
open Go.RowKit Go.Proofs.YtkgjpelddncfdaaW.PrintWords Go.Proofs.YtkgjpelddncfdaaW.PrintLast Go.Proofs.YtkgjpelddncfdaaW.PrintMore
attribute [local go_sem] max2_int min2_int max_two min_two max_three min_three max_four min_four   -- for this text's walks alone
set_option linter.unusedVariables false
set_option linter.unusedSimpArgs false

/-! ### pascalinelaw11_ref: function 32 -/
set_option maxRecDepth 100000 in
set_option maxHeartbeats 2000000 in
theorem sc_ref_calls (x0 : ByteArray) (x1 x2 x3 x4 x5 : Int) (x6 : Bool) (A : Option Addr) (m c : Nat) (w : World) :
    Calls Try.prog 32 #[.agg #[.string x0, .int .i64 x1, .int .i64 x2, .int .i64 x3, .int .i32 x4, .int .i64 x5, .bool x6, .slice A m c]] w fun e w' => e = .returned (.agg #[.string x0, .int .i64 x1, .int .i64 x2, .int .i64 x3, .int .i32 x4, .int .i64 x5, .bool x6, .slice A m c]) ∧ Below w.heap.size w w' := by
  have HB := Aside0.mk (Below.refl w.heap.size w)
  go_enter Try.func32, Try.ntmps32
  go_wp2_with (first
    | ((with_reducible refine gate_dst (N := 1) rfl ?_); refine box_event ?hg (N := 1) ?hd (cs := #[.string x0, .int .i64 x1, .int .i64 x2, .int .i64 x3, .int .i32 x4, .int .i64 x5, .bool x6, .slice A m c]) (t := 25) ?hr ?_; (case hd => rfl); (case hg => rfl); (case hr => first | (go_simp; done) | (go_simp; rfl)); intro b1 hg1 w1 hbox1 hb1; have HB1 := Aside0.mk hb1; have HX1 := Aside0.mk hbox1; clear hg1 hbox1 hb1)
    | ((with_reducible refine gate_dst (N := 2) rfl ?_); refine box_event ?hg (N := 2) ?hd (cs := #[.string ⟨#[]⟩, .int .i64 0, .int .i64 0, .int .i64 0, .int .i32 0, .int .i64 0, .bool false, .slice none 0 0]) (t := 46) ?hr ?_; (case hd => rfl); (case hg => rfl); (case hr => first | (go_simp; done) | (go_simp; rfl)); intro b2 hg2 w2 hbox2 hb2; have HB2 := Aside0.mk (below_step HB1.out hb2); have HX2 := Aside0.mk hbox2; have HG2 := Aside0.mk (show w.heap.size ≤ b2 by rw [hg2]; exact HB1.out.size); have h1 := blk_below HX1.out hb2; have e0 : w2.cell? ⟨b1, 0, none⟩ = some _ := blk_cell h1 0; have e1 : w2.cell? ⟨b1, 1, none⟩ = some _ := blk_cell h1 1; have e2 : w2.cell? ⟨b1, 2, none⟩ = some _ := blk_cell h1 2; have e3 : w2.cell? ⟨b1, 3, none⟩ = some _ := blk_cell h1 3; have e4 : w2.cell? ⟨b1, 4, none⟩ = some _ := blk_cell h1 4; have e5 : w2.cell? ⟨b1, 5, none⟩ = some _ := blk_cell h1 5; have e6 : w2.cell? ⟨b1, 6, none⟩ = some _ := blk_cell h1 6; have e7 : w2.cell? ⟨b1, 7, none⟩ = some _ := blk_cell h1 7; have f0 := blk_frozen hbox2 0; have f1 := blk_frozen hbox2 1; have f2 := blk_frozen hbox2 2; have f3 := blk_frozen hbox2 3; have f4 := blk_frozen hbox2 4; have f5 := blk_frozen hbox2 5; have f6 := blk_frozen hbox2 6; have f7 := blk_frozen hbox2 7; have b0 : w2.cell? ⟨b2, 0, none⟩ = some _ := blk_cell hbox2 0; have b1_ : w2.cell? ⟨b2, 1, none⟩ = some _ := blk_cell hbox2 1; have b2_ : w2.cell? ⟨b2, 2, none⟩ = some _ := blk_cell hbox2 2; have b3 : w2.cell? ⟨b2, 3, none⟩ = some _ := blk_cell hbox2 3; have b4 : w2.cell? ⟨b2, 4, none⟩ = some _ := blk_cell hbox2 4; have b5 : w2.cell? ⟨b2, 5, none⟩ = some _ := blk_cell hbox2 5; have b6 : w2.cell? ⟨b2, 6, none⟩ = some _ := blk_cell hbox2 6; have b7 : w2.cell? ⟨b2, 7, none⟩ = some _ := blk_cell hbox2 7; clear hg2 hbox2 hb2 h1))
  refine bodyPost_ret (results_single (r := .cell 2 46) rfl (.cell b2 46 #[.string x0, .int .i64 x1, .int .i64 x2, .int .i64 x3, .int .i32 x4, .int .i64 x5, .bool x6, .slice A m c] (0, 0) _ rfl (sc_put8 HX2.out _ _ _ _ _ _ _ _) Try.underlying46 rfl (by kernel_rfl) .nil)) rfl ?_
  exact ⟨rfl, sc_put8b HB2.out HG2.out _ _ _ _ _ _ _ _⟩

end Go.Proofs.Ytkgjpelddncfdaa.P

-- Written by a program of this session (wip/tools/hp.py) out of the translation.
import Derived.Test.YtmebogkhdbbbbaaPx0
namespace Go.Proofs.Ytmebogkhdbbbbaa.P
open Go.RowKit Go.Proofs.YtmebogkhdbbbbaaW.PrintWords Go.Proofs.YtmebogkhdbbbbaaW.PrintLast Go.Proofs.YtmebogkhdbbbbaaW.PrintMore
attribute [local go_sem] max2_int min2_int max_two min_two max_three min_three max_four min_four   -- for this text's walks alone
set_option linter.unusedVariables false
set_option linter.unusedSimpArgs false

/-! ### pascalinelaw27_Ref: function 14 -/
set_option maxRecDepth 100000 in
set_option maxHeartbeats 4000000 in
theorem rf_ends (w : World) (a0 a1 a2 a3 a4 : Int) : Calls Try.prog 31 #[.agg #[.int .u32 a0, .int .u32 a1, .int .u32 a2, .int .u32 a3, .int .u32 a4]] w fun e w' => e = .returned (.agg #[.int .u32 a0, .int .u32 a1, .int .u32 a2, .int .u32 a3, .int .u32 a4]) ∧ Below w.heap.size w w' := by
  go_enter Try.func31, Try.ntmps31
  go_wp2_with (first | ((with_reducible refine gate_dst (N := 1) rfl ?_); refine box_event ?hg (N := 1) ?hd (cs := #[.int .u32 a0, .int .u32 a1, .int .u32 a2, .int .u32 a3, .int .u32 a4]) (t := 34) ?hr ?_; (case hd => rfl); (case hg => rfl); (case hr => first | (go_simp; done) | (go_simp; rfl)); intro b1 hgx w1 hbox hb; have HB1 := Aside0.mk hb; have HX1 := Aside0.mk hbox; clear hgx hbox hb) | ((with_reducible refine gate_dst (N := 2) rfl ?_); refine box_event ?hg (N := 2) ?hd (cs := #[.int .u32 0, .int .u32 0, .int .u32 0, .int .u32 0, .int .u32 0]) (t := 54) ?hr ?_; (case hd => rfl); (case hg => rfl); (case hr => first | (go_simp; done) | (go_simp; rfl)); intro b2 hgx w2 hbox hb; have HB2 := Aside0.mk (below_step HB1.out hb); have HX2 := Aside0.mk hbox; have HG2 : Aside0 (w.heap.size ≤ b2) := ⟨by have := HB1.out.size; omega⟩; have c0 := pw_cell_below hb (blk_cell HX1.out 0); have c1 := pw_cell_below hb (blk_cell HX1.out 1); have c2 := pw_cell_below hb (blk_cell HX1.out 2); have c3 := pw_cell_below hb (blk_cell HX1.out 3); have c4 := pw_cell_below hb (blk_cell HX1.out 4); have v0 : w2.cell? ⟨b2, 0, none⟩ = some (.int .u32 0) := blk_cell hbox 0; have v1 : w2.cell? ⟨b2, 1, none⟩ = some (.int .u32 0) := blk_cell hbox 1; have v2 : w2.cell? ⟨b2, 2, none⟩ = some (.int .u32 0) := blk_cell hbox 2; have v3 : w2.cell? ⟨b2, 3, none⟩ = some (.int .u32 0) := blk_cell hbox 3; have v4 : w2.cell? ⟨b2, 4, none⟩ = some (.int .u32 0) := blk_cell hbox 4; have f0 := blk_frozen hbox 0; have f1 := blk_frozen hbox 1; have f2 := blk_frozen hbox 2; have f3 := blk_frozen hbox 3; have f4 := blk_frozen hbox 4; clear hgx hbox hb))
  have e0 := blk_put (cs' := #[.int .u32 a0, .int .u32 0, .int .u32 0, .int .u32 0, .int .u32 0]) HX2.out 0 (.int .u32 a0) rfl
  have e1 := blk_put (cs' := #[.int .u32 a0, .int .u32 a1, .int .u32 0, .int .u32 0, .int .u32 0]) e0 1 (.int .u32 a1) rfl
  have e2 := blk_put (cs' := #[.int .u32 a0, .int .u32 a1, .int .u32 a2, .int .u32 0, .int .u32 0]) e1 2 (.int .u32 a2) rfl
  have e3 := blk_put (cs' := #[.int .u32 a0, .int .u32 a1, .int .u32 a2, .int .u32 a3, .int .u32 0]) e2 3 (.int .u32 a3) rfl
  have e4 := blk_put (cs' := #[.int .u32 a0, .int .u32 a1, .int .u32 a2, .int .u32 a3, .int .u32 a4]) e3 4 (.int .u32 a4) rfl
  refine bodyPost_ret (results_cell_row rfl _ _ b2 54 #[.int .u32 a0, .int .u32 a1, .int .u32 a2, .int .u32 a3, .int .u32 a4] (0, 0) _ rfl e4 Try.underlying54 rfl (by kernel_rfl)) rfl ?_
  exact ⟨rfl, (below_set (j := 4) (v := .int .u32 a4) (below_set (j := 3) (v := .int .u32 a3) (below_set (j := 2) (v := .int .u32 a2) (below_set (j := 1) (v := .int .u32 a1) (below_set (j := 0) (v := .int .u32 a0) HB2.out HG2.out) HG2.out) HG2.out) HG2.out) HG2.out)⟩
theorem rf_info : (Try.prog.info? 87).map (fun i => (i.zero, i.size, i.bytes)) = some (some (.agg #[.string ⟨#[]⟩, .int .i64 0, .int .i64 0, .int .i64 0, .int .i64 0]), 5, 48) := by kernel_rfl
theorem rf_M {w : World} {base : Nat} {ok : Nat → Prop} {m0 : ByteArray} {m1 m2 m3 m4 : Int} : k49.M w base ok ⟨m0, m1, m2, m3, m4⟩ [.string m0, .int .i64 m1, .int .i64 m2, .int .i64 m3, .int .i64 m4] :=
  ⟨[.string m0], [.int .i64 m1, .int .i64 m2, .int .i64 m3, .int .i64 m4], rfl, rfl, ⟨[.int .i64 m1], [.int .i64 m2, .int .i64 m3, .int .i64 m4], rfl, rfl, ⟨[.int .i64 m2], [.int .i64 m3, .int .i64 m4], rfl, rfl, ⟨[.int .i64 m3], [.int .i64 m4], rfl, rfl, rfl⟩⟩⟩⟩
set_option maxRecDepth 100000 in
set_option maxHeartbeats 8000000 in
theorem rf_calls (w : World) (a0 a1 a2 a3 a4 : Int) (A5 : Option Addr) (n5 c5 : Nat) (A6 : Option Addr) (n6 c6 : Nat) (s7 s8 s9 s10 : Int) (AM : Option Addr) (cM : Nat) (ms : List S49) (hM : Kd.C k49 w AM ms.length ms) (hml : ms.length ≤ 80) :
    Calls Try.prog 14 #[.agg #[.int .u32 a0, .int .u32 a1, .int .u32 a2, .int .u32 a3, .int .u32 a4, .slice A5 n5 c5, .slice A6 n6 c6, .int .u32 s7, .int .u32 s8, .int .u32 s9, .int .u32 s10, .slice AM ms.length cM]] w fun e w' => ∃ Ak ck, e = .returned (.agg #[.int .u32 a0, .int .u32 a1, .int .u32 a2, .int .u32 a3, .int .u32 a4, .slice A5 n5 c5, .slice A6 n6 c6, .int .u32 s7, .int .u32 s10, .slice Ak ms.length ck, .int .u32 s9, .int .u32 s8]) ∧ Kd.C k49 w' Ak ms.length ms ∧ Below w.heap.size w w' := by
  have HM := Aside0.mk hM
  clear hM
  have hmz : (ms.length : Int) ≤ 80 := by omega
  have mixed : Try.prog.follows .mixedOrders = true := by kernel_rfl
  go_enter Try.func14, Try.ntmps14
  go_wp2_with (first | ((with_reducible refine gate_dst (N := 1) rfl ?_); refine box_event ?hg (N := 1) ?hd (cs := #[.int .u32 a0, .int .u32 a1, .int .u32 a2, .int .u32 a3, .int .u32 a4, .slice A5 n5 c5, .slice A6 n6 c6, .int .u32 s7, .int .u32 s8, .int .u32 s9, .int .u32 s10, .slice AM ms.length cM]) (t := 40) ?hr ?_; (case hd => rfl); (case hg => rfl); (case hr => first | (go_simp; done) | (go_simp; rfl)); intro b1 hgx w1 hbox hb; have HB1 := Aside0.mk hb; have HX1 := Aside0.mk hbox; clear hgx hbox hb) | ((with_reducible refine gate_dst (N := 2) rfl ?_); refine box_event ?hg (N := 2) ?hd (cs := #[.int .u32 0, .int .u32 0, .int .u32 0, .int .u32 0, .int .u32 0, .slice none 0 0, .slice none 0 0, .int .u32 0, .int .u32 0, .slice none 0 0, .int .u32 0, .int .u32 0]) (t := 59) ?hr ?_; (case hd => rfl); (case hg => rfl); (case hr => first | (go_simp; done) | (go_simp; rfl)); intro b2 hgx w2 hbox hb; have HB2 := Aside0.mk (below_step HB1.out hb); have HX2 := Aside0.mk hbox; have HG2 : Aside0 (w.heap.size ≤ b2) := ⟨by have := HB1.out.size; omega⟩; have HY2 := Aside0.mk (blk_below HX1.out hb); have c8 := blk_cell HY2.out 8; have c9 := blk_cell HY2.out 9; clear hgx hbox hb) | ((with_reducible refine gate_dst (N := 3) rfl ?_); refine box_event ?hg (N := 3) ?hd (cs := #[.int .u32 0, .int .u32 0, .int .u32 0, .int .u32 0, .int .u32 0, .slice none 0 0, .slice none 0 0, .int .u32 0, .int .u32 0, .slice none 0 0, .int .u32 0, .int .u32 0]) (t := 59) ?hr ?_; (case hd => rfl); (case hg => rfl); (case hr => first | (go_simp; done) | (go_simp; rfl)); intro b3 hgx w3 hbox hb; have HB3 := Aside0.mk (below_step HB2.out hb); have HX3 := Aside0.mk hbox; have HG3 : Aside0 (w.heap.size ≤ b3) := ⟨by have := HB2.out.size; omega⟩; have HY3 := Aside0.mk (blk_below HY2.out hb); have HZ3 := Aside0.mk (blk_below HX2.out hb); have HNE : Aside0 (b1 ≠ b3) := ⟨by have := blk_lt HY2.out; omega⟩; have HNZ : Aside0 (b2 ≠ b3) := ⟨by have := blk_lt HX2.out; omega⟩; have v0 : w3.cell? ⟨b3, 0, none⟩ = some (.int .u32 0) := blk_cell hbox 0; have v1 : w3.cell? ⟨b3, 1, none⟩ = some (.int .u32 0) := blk_cell hbox 1; have v2 : w3.cell? ⟨b3, 2, none⟩ = some (.int .u32 0) := blk_cell hbox 2; have v3 : w3.cell? ⟨b3, 3, none⟩ = some (.int .u32 0) := blk_cell hbox 3; have v4 : w3.cell? ⟨b3, 4, none⟩ = some (.int .u32 0) := blk_cell hbox 4; have v5 : w3.cell? ⟨b3, 5, none⟩ = some (.slice none 0 0) := blk_cell hbox 5; have v6 : w3.cell? ⟨b3, 6, none⟩ = some (.slice none 0 0) := blk_cell hbox 6; have v7 : w3.cell? ⟨b3, 7, none⟩ = some (.int .u32 0) := blk_cell hbox 7; have v8 : w3.cell? ⟨b3, 8, none⟩ = some (.int .u32 0) := blk_cell hbox 8; have v9 : w3.cell? ⟨b3, 9, none⟩ = some (.slice none 0 0) := blk_cell hbox 9; have v10 : w3.cell? ⟨b3, 10, none⟩ = some (.int .u32 0) := blk_cell hbox 10; have v11 : w3.cell? ⟨b3, 11, none⟩ = some (.int .u32 0) := blk_cell hbox 11; have f0 := blk_frozen hbox 0; have f1 := blk_frozen hbox 1; have f2 := blk_frozen hbox 2; have f3 := blk_frozen hbox 3; have f4 := blk_frozen hbox 4; have f5 := blk_frozen hbox 5; have f6 := blk_frozen hbox 6; have f7 := blk_frozen hbox 7; have f8 := blk_frozen hbox 8; have f9 := blk_frozen hbox 9; have f10 := blk_frozen hbox 10; have f11 := blk_frozen hbox 11; clear hgx hbox hb c8 c9) | ((with_reducible refine gate_dst (N := 14) rfl ?_); obtain ⟨W4, hW4⟩ : ∃ W4 : World, ((((((((((((w3.setCell ⟨b3, 0, none⟩ (.int .u32 0)).setCell ⟨b3, 1, none⟩ (.int .u32 0)).setCell ⟨b3, 2, none⟩ (.int .u32 0)).setCell ⟨b3, 3, none⟩ (.int .u32 0)).setCell ⟨b3, 4, none⟩ (.int .u32 0)).setCell ⟨b3, 5, none⟩ (.slice none 0 0)).setCell ⟨b3, 6, none⟩ (.slice none 0 0)).setCell ⟨b3, 7, none⟩ (.int .u32 0)).setCell ⟨b3, 8, none⟩ (.int .u32 0)).setCell ⟨b3, 9, none⟩ (.slice none 0 0)).setCell ⟨b3, 10, none⟩ (.int .u32 s9)).setCell ⟨b3, 11, none⟩ (.int .u32 s8)) = W4 := ⟨_, rfl⟩; rw [hW4]; have e0 := blk_put (cs' := #[.int .u32 0, .int .u32 0, .int .u32 0, .int .u32 0, .int .u32 0, .slice none 0 0, .slice none 0 0, .int .u32 0, .int .u32 0, .slice none 0 0, .int .u32 0, .int .u32 0]) HX3.out 0 (.int .u32 0) rfl; have e1 := blk_put (cs' := #[.int .u32 0, .int .u32 0, .int .u32 0, .int .u32 0, .int .u32 0, .slice none 0 0, .slice none 0 0, .int .u32 0, .int .u32 0, .slice none 0 0, .int .u32 0, .int .u32 0]) e0 1 (.int .u32 0) rfl; have e2 := blk_put (cs' := #[.int .u32 0, .int .u32 0, .int .u32 0, .int .u32 0, .int .u32 0, .slice none 0 0, .slice none 0 0, .int .u32 0, .int .u32 0, .slice none 0 0, .int .u32 0, .int .u32 0]) e1 2 (.int .u32 0) rfl; have e3 := blk_put (cs' := #[.int .u32 0, .int .u32 0, .int .u32 0, .int .u32 0, .int .u32 0, .slice none 0 0, .slice none 0 0, .int .u32 0, .int .u32 0, .slice none 0 0, .int .u32 0, .int .u32 0]) e2 3 (.int .u32 0) rfl; have e4 := blk_put (cs' := #[.int .u32 0, .int .u32 0, .int .u32 0, .int .u32 0, .int .u32 0, .slice none 0 0, .slice none 0 0, .int .u32 0, .int .u32 0, .slice none 0 0, .int .u32 0, .int .u32 0]) e3 4 (.int .u32 0) rfl; have e5 := blk_put (cs' := #[.int .u32 0, .int .u32 0, .int .u32 0, .int .u32 0, .int .u32 0, .slice none 0 0, .slice none 0 0, .int .u32 0, .int .u32 0, .slice none 0 0, .int .u32 0, .int .u32 0]) e4 5 (.slice none 0 0) rfl; have e6 := blk_put (cs' := #[.int .u32 0, .int .u32 0, .int .u32 0, .int .u32 0, .int .u32 0, .slice none 0 0, .slice none 0 0, .int .u32 0, .int .u32 0, .slice none 0 0, .int .u32 0, .int .u32 0]) e5 6 (.slice none 0 0) rfl; have e7 := blk_put (cs' := #[.int .u32 0, .int .u32 0, .int .u32 0, .int .u32 0, .int .u32 0, .slice none 0 0, .slice none 0 0, .int .u32 0, .int .u32 0, .slice none 0 0, .int .u32 0, .int .u32 0]) e6 7 (.int .u32 0) rfl; have e8 := blk_put (cs' := #[.int .u32 0, .int .u32 0, .int .u32 0, .int .u32 0, .int .u32 0, .slice none 0 0, .slice none 0 0, .int .u32 0, .int .u32 0, .slice none 0 0, .int .u32 0, .int .u32 0]) e7 8 (.int .u32 0) rfl; have e9 := blk_put (cs' := #[.int .u32 0, .int .u32 0, .int .u32 0, .int .u32 0, .int .u32 0, .slice none 0 0, .slice none 0 0, .int .u32 0, .int .u32 0, .slice none 0 0, .int .u32 0, .int .u32 0]) e8 9 (.slice none 0 0) rfl; have e10 := blk_put (cs' := #[.int .u32 0, .int .u32 0, .int .u32 0, .int .u32 0, .int .u32 0, .slice none 0 0, .slice none 0 0, .int .u32 0, .int .u32 0, .slice none 0 0, .int .u32 s9, .int .u32 0]) e9 10 (.int .u32 s9) rfl; have e11 := blk_put (cs' := #[.int .u32 0, .int .u32 0, .int .u32 0, .int .u32 0, .int .u32 0, .slice none 0 0, .slice none 0 0, .int .u32 0, .int .u32 0, .slice none 0 0, .int .u32 s9, .int .u32 s8]) e10 11 (.int .u32 s8) rfl; have hx := e11; rw [hW4] at hx; have HX4 := Aside0.mk hx; have hb := (below_set (j := 11) (v := .int .u32 s8) (below_set (j := 10) (v := .int .u32 s9) (below_set (j := 9) (v := .slice none 0 0) (below_set (j := 8) (v := .int .u32 0) (below_set (j := 7) (v := .int .u32 0) (below_set (j := 6) (v := .slice none 0 0) (below_set (j := 5) (v := .slice none 0 0) (below_set (j := 4) (v := .int .u32 0) (below_set (j := 3) (v := .int .u32 0) (below_set (j := 2) (v := .int .u32 0) (below_set (j := 1) (v := .int .u32 0) (below_set (j := 0) (v := .int .u32 0) HB3.out HG3.out) HG3.out) HG3.out) HG3.out) HG3.out) HG3.out) HG3.out) HG3.out) HG3.out) HG3.out) HG3.out) HG3.out); rw [hW4] at hb; have HB4 := Aside0.mk hb; have hy : W4.heap[b1]? = some (.cells #[.int .u32 a0, .int .u32 a1, .int .u32 a2, .int .u32 a3, .int .u32 a4, .slice A5 n5 c5, .slice A6 n6 c6, .int .u32 s7, .int .u32 s8, .int .u32 s9, .int .u32 s10, .slice AM ms.length cM] 40 (0, 0)) := (by rw [← hW4]; exact (blk_far (blk_far (blk_far (blk_far (blk_far (blk_far (blk_far (blk_far (blk_far (blk_far (blk_far (blk_far HY3.out (p := ⟨b3, 0, none⟩) HNE.out (.int .u32 0)) (p := ⟨b3, 1, none⟩) HNE.out (.int .u32 0)) (p := ⟨b3, 2, none⟩) HNE.out (.int .u32 0)) (p := ⟨b3, 3, none⟩) HNE.out (.int .u32 0)) (p := ⟨b3, 4, none⟩) HNE.out (.int .u32 0)) (p := ⟨b3, 5, none⟩) HNE.out (.slice none 0 0)) (p := ⟨b3, 6, none⟩) HNE.out (.slice none 0 0)) (p := ⟨b3, 7, none⟩) HNE.out (.int .u32 0)) (p := ⟨b3, 8, none⟩) HNE.out (.int .u32 0)) (p := ⟨b3, 9, none⟩) HNE.out (.slice none 0 0)) (p := ⟨b3, 10, none⟩) HNE.out (.int .u32 s9)) (p := ⟨b3, 11, none⟩) HNE.out (.int .u32 s8))); have HY4 := Aside0.mk hy; have hz : W4.heap[b2]? = some (.cells #[.int .u32 0, .int .u32 0, .int .u32 0, .int .u32 0, .int .u32 0, .slice none 0 0, .slice none 0 0, .int .u32 0, .int .u32 0, .slice none 0 0, .int .u32 0, .int .u32 0] 59 (0, 0)) := (by rw [← hW4]; exact (blk_far (blk_far (blk_far (blk_far (blk_far (blk_far (blk_far (blk_far (blk_far (blk_far (blk_far (blk_far HZ3.out (p := ⟨b3, 0, none⟩) HNZ.out (.int .u32 0)) (p := ⟨b3, 1, none⟩) HNZ.out (.int .u32 0)) (p := ⟨b3, 2, none⟩) HNZ.out (.int .u32 0)) (p := ⟨b3, 3, none⟩) HNZ.out (.int .u32 0)) (p := ⟨b3, 4, none⟩) HNZ.out (.int .u32 0)) (p := ⟨b3, 5, none⟩) HNZ.out (.slice none 0 0)) (p := ⟨b3, 6, none⟩) HNZ.out (.slice none 0 0)) (p := ⟨b3, 7, none⟩) HNZ.out (.int .u32 0)) (p := ⟨b3, 8, none⟩) HNZ.out (.int .u32 0)) (p := ⟨b3, 9, none⟩) HNZ.out (.slice none 0 0)) (p := ⟨b3, 10, none⟩) HNZ.out (.int .u32 s9)) (p := ⟨b3, 11, none⟩) HNZ.out (.int .u32 s8))); have HZ4 := Aside0.mk hz; clear hx hb hy hz hW4 e0 e1 e2 e3 e4 e5 e6 e7 e8 e9 e10 e11 v0 v1 v2 v3 v4 v5 v6 v7 v8 v9 v10 v11 f0 f1 f2 f3 f4 f5 f6 f7 f8 f9 f10 f11; have c0 : W4.cell? ⟨b1, 0, none⟩ = some (.int .u32 a0) := blk_cell HY4.out 0; have c1 : W4.cell? ⟨b1, 1, none⟩ = some (.int .u32 a1) := blk_cell HY4.out 1; have c2 : W4.cell? ⟨b1, 2, none⟩ = some (.int .u32 a2) := blk_cell HY4.out 2; have c3 : W4.cell? ⟨b1, 3, none⟩ = some (.int .u32 a3) := blk_cell HY4.out 3; have c4 : W4.cell? ⟨b1, 4, none⟩ = some (.int .u32 a4) := blk_cell HY4.out 4) | (go_at_call 31; refine (rf_ends _ a0 a1 a2 a3 a4).mono ?_; rintro e w5 ⟨rfl, hb⟩; have HX5 := Aside0.mk (blk_below HX4.out hb); have HY5 := Aside0.mk (blk_below HY4.out hb); have HZ5 := Aside0.mk (blk_below HZ4.out hb); have HB5 := Aside0.mk (below_step HB4.out hb); have v0 : w5.cell? ⟨b3, 0, none⟩ = some (.int .u32 0) := blk_cell HX5.out 0; have v1 : w5.cell? ⟨b3, 1, none⟩ = some (.int .u32 0) := blk_cell HX5.out 1; have v2 : w5.cell? ⟨b3, 2, none⟩ = some (.int .u32 0) := blk_cell HX5.out 2; have v3 : w5.cell? ⟨b3, 3, none⟩ = some (.int .u32 0) := blk_cell HX5.out 3; have v4 : w5.cell? ⟨b3, 4, none⟩ = some (.int .u32 0) := blk_cell HX5.out 4; have f0 := blk_frozen HX5.out 0; have f1 := blk_frozen HX5.out 1; have f2 := blk_frozen HX5.out 2; have f3 := blk_frozen HX5.out 3; have f4 := blk_frozen HX5.out 4; clear hb))
  obtain ⟨W6, hW6⟩ : ∃ W6 : World, (((((w5.setCell ⟨b3, 0, none⟩ (.int .u32 a0)).setCell ⟨b3, 1, none⟩ (.int .u32 a1)).setCell ⟨b3, 2, none⟩ (.int .u32 a2)).setCell ⟨b3, 3, none⟩ (.int .u32 a3)).setCell ⟨b3, 4, none⟩ (.int .u32 a4)) = W6 := ⟨_, rfl⟩
  rw [hW6]
  have e0 := blk_put (cs' := #[.int .u32 a0, .int .u32 0, .int .u32 0, .int .u32 0, .int .u32 0, .slice none 0 0, .slice none 0 0, .int .u32 0, .int .u32 0, .slice none 0 0, .int .u32 s9, .int .u32 s8]) HX5.out 0 (.int .u32 a0) rfl
  have e1 := blk_put (cs' := #[.int .u32 a0, .int .u32 a1, .int .u32 0, .int .u32 0, .int .u32 0, .slice none 0 0, .slice none 0 0, .int .u32 0, .int .u32 0, .slice none 0 0, .int .u32 s9, .int .u32 s8]) e0 1 (.int .u32 a1) rfl
  have e2 := blk_put (cs' := #[.int .u32 a0, .int .u32 a1, .int .u32 a2, .int .u32 0, .int .u32 0, .slice none 0 0, .slice none 0 0, .int .u32 0, .int .u32 0, .slice none 0 0, .int .u32 s9, .int .u32 s8]) e1 2 (.int .u32 a2) rfl
  have e3 := blk_put (cs' := #[.int .u32 a0, .int .u32 a1, .int .u32 a2, .int .u32 a3, .int .u32 0, .slice none 0 0, .slice none 0 0, .int .u32 0, .int .u32 0, .slice none 0 0, .int .u32 s9, .int .u32 s8]) e2 3 (.int .u32 a3) rfl
  have e4 := blk_put (cs' := #[.int .u32 a0, .int .u32 a1, .int .u32 a2, .int .u32 a3, .int .u32 a4, .slice none 0 0, .slice none 0 0, .int .u32 0, .int .u32 0, .slice none 0 0, .int .u32 s9, .int .u32 s8]) e3 4 (.int .u32 a4) rfl
  have hx := e4
  rw [hW6] at hx
  have HX6 := Aside0.mk hx
  have hb := (below_set (j := 4) (v := .int .u32 a4) (below_set (j := 3) (v := .int .u32 a3) (below_set (j := 2) (v := .int .u32 a2) (below_set (j := 1) (v := .int .u32 a1) (below_set (j := 0) (v := .int .u32 a0) HB5.out HG3.out) HG3.out) HG3.out) HG3.out) HG3.out)
  rw [hW6] at hb
  have HB6 := Aside0.mk hb
  have hy : W6.heap[b1]? = some (.cells #[.int .u32 a0, .int .u32 a1, .int .u32 a2, .int .u32 a3, .int .u32 a4, .slice A5 n5 c5, .slice A6 n6 c6, .int .u32 s7, .int .u32 s8, .int .u32 s9, .int .u32 s10, .slice AM ms.length cM] 40 (0, 0)) := by rw [← hW6]; exact (blk_far (blk_far (blk_far (blk_far (blk_far HY5.out (p := ⟨b3, 0, none⟩) HNE.out (.int .u32 a0)) (p := ⟨b3, 1, none⟩) HNE.out (.int .u32 a1)) (p := ⟨b3, 2, none⟩) HNE.out (.int .u32 a2)) (p := ⟨b3, 3, none⟩) HNE.out (.int .u32 a3)) (p := ⟨b3, 4, none⟩) HNE.out (.int .u32 a4))
  have HY6 := Aside0.mk hy
  have hz : W6.heap[b2]? = some (.cells #[.int .u32 0, .int .u32 0, .int .u32 0, .int .u32 0, .int .u32 0, .slice none 0 0, .slice none 0 0, .int .u32 0, .int .u32 0, .slice none 0 0, .int .u32 0, .int .u32 0] 59 (0, 0)) := by rw [← hW6]; exact (blk_far (blk_far (blk_far (blk_far (blk_far HZ5.out (p := ⟨b3, 0, none⟩) HNZ.out (.int .u32 a0)) (p := ⟨b3, 1, none⟩) HNZ.out (.int .u32 a1)) (p := ⟨b3, 2, none⟩) HNZ.out (.int .u32 a2)) (p := ⟨b3, 3, none⟩) HNZ.out (.int .u32 a3)) (p := ⟨b3, 4, none⟩) HNZ.out (.int .u32 a4))
  have HZ6 := Aside0.mk hz
  clear hx hb hy hz hW6 e0 e1 e2 e3 e4 v0 v1 v2 v3 v4 f0 f1 f2 f3 f4
  have hn1 : ¬ b1 = b3 := HNE.out
  have hn3 : ¬ b3 = b1 := fun h => HNE.out h.symm
  have g5 : W6.cell? ⟨b1, 5, none⟩ = some (.slice A5 n5 c5) := blk_cell HY6.out 5
  have g6 : W6.cell? ⟨b1, 6, none⟩ = some (.slice A6 n6 c6) := blk_cell HY6.out 6
  have g7 : W6.cell? ⟨b1, 7, none⟩ = some (.int .u32 s7) := blk_cell HY6.out 7
  have g10 : W6.cell? ⟨b1, 10, none⟩ = some (.int .u32 s10) := blk_cell HY6.out 10
  have h5 : W6.cell? ⟨b3, 5, none⟩ = some (.slice none 0 0) := blk_cell HX6.out 5
  have h6 : W6.cell? ⟨b3, 6, none⟩ = some (.slice none 0 0) := blk_cell HX6.out 6
  have h7 : W6.cell? ⟨b3, 7, none⟩ = some (.int .u32 0) := blk_cell HX6.out 7
  have h8 : W6.cell? ⟨b3, 8, none⟩ = some (.int .u32 0) := blk_cell HX6.out 8
  have f5 := blk_frozen HX6.out 5
  have f6 := blk_frozen HX6.out 6
  have f7 := blk_frozen HX6.out 7
  have f8 := blk_frozen HX6.out 8
  go_big_region_o
  clear g5 g6 g7 g10 h5 h6 h7 h8 f5 f6 f7 f8
  obtain ⟨W7, hW7⟩ : ∃ W7 : World, ((((W6.setCell ⟨b3, 5, none⟩ (.slice A5 n5 c5)).setCell ⟨b3, 6, none⟩ (.slice A6 n6 c6)).setCell ⟨b3, 7, none⟩ (.int .u32 s7)).setCell ⟨b3, 8, none⟩ (.int .u32 s10)).drew = W7 := ⟨_, rfl⟩
  rw [hW7]
  have e0 := blk_put (cs' := #[.int .u32 a0, .int .u32 a1, .int .u32 a2, .int .u32 a3, .int .u32 a4, .slice A5 n5 c5, .slice none 0 0, .int .u32 0, .int .u32 0, .slice none 0 0, .int .u32 s9, .int .u32 s8]) HX6.out 5 (.slice A5 n5 c5) rfl
  have e1 := blk_put (cs' := #[.int .u32 a0, .int .u32 a1, .int .u32 a2, .int .u32 a3, .int .u32 a4, .slice A5 n5 c5, .slice A6 n6 c6, .int .u32 0, .int .u32 0, .slice none 0 0, .int .u32 s9, .int .u32 s8]) e0 6 (.slice A6 n6 c6) rfl
  have e2 := blk_put (cs' := #[.int .u32 a0, .int .u32 a1, .int .u32 a2, .int .u32 a3, .int .u32 a4, .slice A5 n5 c5, .slice A6 n6 c6, .int .u32 s7, .int .u32 0, .slice none 0 0, .int .u32 s9, .int .u32 s8]) e1 7 (.int .u32 s7) rfl
  have e3 := blk_put (cs' := #[.int .u32 a0, .int .u32 a1, .int .u32 a2, .int .u32 a3, .int .u32 a4, .slice A5 n5 c5, .slice A6 n6 c6, .int .u32 s7, .int .u32 s10, .slice none 0 0, .int .u32 s9, .int .u32 s8]) e2 8 (.int .u32 s10) rfl
  have hx := blk_drew e3
  rw [hW7] at hx
  have HX7 := Aside0.mk hx
  have hb := (below_drew (below_set (j := 8) (v := .int .u32 s10) (below_set (j := 7) (v := .int .u32 s7) (below_set (j := 6) (v := .slice A6 n6 c6) (below_set (j := 5) (v := .slice A5 n5 c5) HB6.out HG3.out) HG3.out) HG3.out) HG3.out))
  rw [hW7] at hb
  have HB7 := Aside0.mk hb
  have hy : W7.heap[b1]? = some (.cells #[.int .u32 a0, .int .u32 a1, .int .u32 a2, .int .u32 a3, .int .u32 a4, .slice A5 n5 c5, .slice A6 n6 c6, .int .u32 s7, .int .u32 s8, .int .u32 s9, .int .u32 s10, .slice AM ms.length cM] 40 (0, 0)) := by rw [← hW7]; exact (blk_drew (blk_far (blk_far (blk_far (blk_far HY6.out (p := ⟨b3, 5, none⟩) HNE.out (.slice A5 n5 c5)) (p := ⟨b3, 6, none⟩) HNE.out (.slice A6 n6 c6)) (p := ⟨b3, 7, none⟩) HNE.out (.int .u32 s7)) (p := ⟨b3, 8, none⟩) HNE.out (.int .u32 s10)))
  have HY7 := Aside0.mk hy
  have hz : W7.heap[b2]? = some (.cells #[.int .u32 0, .int .u32 0, .int .u32 0, .int .u32 0, .int .u32 0, .slice none 0 0, .slice none 0 0, .int .u32 0, .int .u32 0, .slice none 0 0, .int .u32 0, .int .u32 0] 59 (0, 0)) := by rw [← hW7]; exact (blk_drew (blk_far (blk_far (blk_far (blk_far HZ6.out (p := ⟨b3, 5, none⟩) HNZ.out (.slice A5 n5 c5)) (p := ⟨b3, 6, none⟩) HNZ.out (.slice A6 n6 c6)) (p := ⟨b3, 7, none⟩) HNZ.out (.int .u32 s7)) (p := ⟨b3, 8, none⟩) HNZ.out (.int .u32 s10)))
  have HZ7 := Aside0.mk hz
  clear hx hb hy hz hW7 e0 e1 e2 e3 hn1 hn3
  go_wp2_with fail
  go_loopg [4] (ms.length + 1) (fun kx v4 wr => ∃ (k : Nat) (vk : Value), v4 = .int .i64 k ∧ Aside0 (k + kx = ms.length + 1 ∧ k ≤ ms.length) ∧ Aside0 (wr.heap[b3]? = some (.cells #[.int .u32 a0, .int .u32 a1, .int .u32 a2, .int .u32 a3, .int .u32 a4, .slice A5 n5 c5, .slice A6 n6 c6, .int .u32 s7, .int .u32 s10, vk, .int .u32 s9, .int .u32 s8] 59 (0, 0))) ∧ Aside0 (wr.heap[b1]? = some (.cells #[.int .u32 a0, .int .u32 a1, .int .u32 a2, .int .u32 a3, .int .u32 a4, .slice A5 n5 c5, .slice A6 n6 c6, .int .u32 s7, .int .u32 s8, .int .u32 s9, .int .u32 s10, .slice AM ms.length cM] 40 (0, 0))) ∧ Aside0 (wr.heap[b2]? = some (.cells #[.int .u32 0, .int .u32 0, .int .u32 0, .int .u32 0, .int .u32 0, .slice none 0 0, .slice none 0 0, .int .u32 0, .int .u32 0, .slice none 0 0, .int .u32 0, .int .u32 0] 59 (0, 0))) ∧ Aside0 (Kd.R k49 87 wr w.heap.size (fun _ => True) vk (ms.take k)) ∧ Aside0 (Below w.heap.size w wr))
  case atStart => exact ⟨0, .slice none 0 0, rfl, ⟨⟨by omega, by omega⟩⟩, HX7, HY7, HZ7, ⟨by rw [List.take_zero]; exact Kd.R_nil _ _ _ _ _⟩, HB7⟩
  case round =>
    obtain ⟨k, vk, rfl, HI, HX, HY, HZ, HR, HB⟩ := hrel
    have c11 : wr.cell? ⟨b1, 11, none⟩ = some (.slice AM ms.length cM) := blk_cell HY.out 11
    by_cases hk : k < ms.length
    · obtain ⟨ad, e, cx0, cx1, cx2, cx3, cx4⟩ := at_T49 HM.out (k : Int) (by omega) (by omega)
      cases e
      rw [Int.toNat_natCast] at cx0 cx1 cx2 cx3 cx4
      have htk : ms.take (k + 1) = ms.take k ++ [rd_T49 ms (k : Int)] := by
        unfold rd_T49
        rw [List.take_add_one, List.getElem?_eq_getElem hk, Int.toNat_natCast, List.getD_eq_getElem?_getD, List.getElem?_eq_getElem hk]
        rfl
      obtain ⟨md, hmd⟩ : ∃ md, rd_T49 ms (k : Int) = md := ⟨_, rfl⟩
      rw [hmd] at cx0 cx1 cx2 cx3 cx4 htk
      clear hmd
      obtain ⟨m0, m1, m2, m3, m4⟩ := md
      dsimp only at cx0 cx1 cx2 cx3 cx4
      replace cx0 := pw_cell_below HB.out cx0
      replace cx1 := pw_cell_below HB.out cx1
      replace cx2 := pw_cell_below HB.out cx2
      replace cx3 := pw_cell_below HB.out cx3
      replace cx4 := pw_cell_below HB.out cx4
      have HT := Aside0.mk htk; have HH := Aside0.mk hk
      have k1 : (0 : Int) ≤ (k : Int) := by omega
      have k2 : (k : Int) < (ms.length : Int) := by omega
      have k2b : decide (k < ms.length) = true := decide_eq_true hk
      have k3 : (k : Int) ≤ 80 := by omega
      clear htk hk
      have hba := below_alloc (Below.refl wr.heap.size wr) (.cells #[.string m0, .int .i64 m1, .int .i64 m2, .int .i64 m3, .int .i64 m4] 49)
      have HRa := Aside0.mk (Kd.R_below HR.out hba)
      have HBa := Aside0.mk (below_step HB.out hba)
      have HXa := Aside0.mk (blk_below HX.out hba)
      have HYa := Aside0.mk (blk_below HY.out hba)
      have HZa := Aside0.mk (blk_below HZ.out hba)
      have c9 := blk_cell HXa.out 9
      clear hba HR HX HY HZ
      go_wp2_with (first | ((with_reducible refine gate_builtin (b := .append) (xs := #[.tmp 50, .tmp 62]) rfl ?_); at_builtin; refine Kd.R_append k49 (w0 := w) w.heap.size rfl (.tmp 50) (.tmp 62) 55 87 (.agg #[.string ⟨#[]⟩, .int .i64 0, .int .i64 0, .int .i64 0, .int .i64 0]) 48 rfl Try.underlying55 rf_info rfl (by decide) (by omega) vk (ms.take k) ⟨m0, m1, m2, m3, m4⟩ [.string m0, .int .i64 m1, .int .i64 m2, .int .i64 m3, .int .i64 m4] (fun _ => True) (fun _ => False) rfl ?aX ?aP (fun _ hk => hk.elim) ?aF ?aO ?aB ?aS ?aL ?_; (case aX => first | rfl | (rw [World.size_alloc]; rfl)); (case aP => exact rf_M); (case aB => exact HBa.out); (case aF => exact (fun _ _ => trivial)); (case aO => exact HRa.out); (case aS => exact HBa.out.size); (case aL => have := HI.out; rw [List.length_take]; omega); intro v9 w9 ho hb hg hat; obtain ⟨A9, d9, rfl⟩ := Kd.R_slice ho; generalize hn9 : (ms.take k ++ [(⟨m0, m1, m2, m3, m4⟩ : S49)]).length = n9 at ho ⊢; clear hn9; have HR9 := Aside0.mk ho; have HB9 := Aside0.mk hb; have HX9 := Aside0.mk (blk_grown HXa.out hg (Kd.R_ne HRa.out HXa.out (by decide))); have HY9 := Aside0.mk (blk_grown HYa.out hg (Kd.R_ne HRa.out HYa.out (by decide))); have HZ9 := Aside0.mk (blk_grown HZa.out hg (Kd.R_ne HRa.out HZa.out (by decide))); have u9 := blk_cell HX9.out 9; have f9 := blk_frozen HX9.out 9; clear ho hb hg hat HRa HBa HXa HYa HZa))
      go_roundg (ms.length - k)
      case measure => have := HI.out; have := HH.out; omega
      case rel => exact ⟨k + 1, .slice A9 n9 d9, (by first | rfl | (simp; done)), ⟨⟨by have := HI.out; have := HH.out; omega, by have := HH.out; omega⟩⟩, ⟨blk_put (cs' := #[.int .u32 a0, .int .u32 a1, .int .u32 a2, .int .u32 a3, .int .u32 a4, .slice A5 n5 c5, .slice A6 n6 c6, .int .u32 s7, .int .u32 s10, .slice A9 n9 d9, .int .u32 s9, .int .u32 s8]) HX9.out 9 (.slice A9 n9 d9) rfl⟩, ⟨blk_far HY9.out (p := ⟨b3, 9, none⟩) HNE.out (.slice A9 n9 d9)⟩, ⟨blk_far HZ9.out (p := ⟨b3, 9, none⟩) HNZ.out (.slice A9 n9 d9)⟩, ⟨by rw [HT.out]; exact Kd.R_set HR9.out HX9.out (by decide) 9 _⟩, ⟨below_set HB9.out HG3.out⟩⟩
    · have hke : k = ms.length := by have := HI.out; omega
      subst hke
      have k2 : ¬ ((ms.length : Int) < (ms.length : Int)) := by omega
      have k2b : decide (ms.length < ms.length) = false := decide_eq_false (by omega)
      clear hk
      have hR := HR.out
      rw [List.take_length] at hR
      obtain ⟨Ak, ck, rfl⟩ := Kd.R_slice hR
      have HRk := Aside0.mk hR
      clear hR
      obtain ⟨Wq, hWq⟩ : ∃ Wq, wr = Wq := ⟨_, rfl⟩
      subst hWq
      have g0 := blk_cell HX.out 0
      have g1 := blk_cell HX.out 1
      have g2 := blk_cell HX.out 2
      have g3 := blk_cell HX.out 3
      have g4 := blk_cell HX.out 4
      have g5 := blk_cell HX.out 5
      have g6 := blk_cell HX.out 6
      have g7 := blk_cell HX.out 7
      have g8 := blk_cell HX.out 8
      have g9 := blk_cell HX.out 9
      have g10 := blk_cell HX.out 10
      have g11 := blk_cell HX.out 11
      have v0 := blk_cell HZ.out 0
      have v1 := blk_cell HZ.out 1
      have v2 := blk_cell HZ.out 2
      have v3 := blk_cell HZ.out 3
      have v4 := blk_cell HZ.out 4
      have v5 := blk_cell HZ.out 5
      have v6 := blk_cell HZ.out 6
      have v7 := blk_cell HZ.out 7
      have v8 := blk_cell HZ.out 8
      have v9 := blk_cell HZ.out 9
      have v10 := blk_cell HZ.out 10
      have v11 := blk_cell HZ.out 11
      have f0 := blk_frozen HZ.out 0
      have f1 := blk_frozen HZ.out 1
      have f2 := blk_frozen HZ.out 2
      have f3 := blk_frozen HZ.out 3
      have f4 := blk_frozen HZ.out 4
      have f5 := blk_frozen HZ.out 5
      have f6 := blk_frozen HZ.out 6
      have f7 := blk_frozen HZ.out 7
      have f8 := blk_frozen HZ.out 8
      have f9 := blk_frozen HZ.out 9
      have f10 := blk_frozen HZ.out 10
      have f11 := blk_frozen HZ.out 11
      go_wp2
      have HXq := HZ
      have e0 := blk_put (cs' := #[.int .u32 a0, .int .u32 0, .int .u32 0, .int .u32 0, .int .u32 0, .slice none 0 0, .slice none 0 0, .int .u32 0, .int .u32 0, .slice none 0 0, .int .u32 0, .int .u32 0]) HXq.out 0 (.int .u32 a0) rfl
      have e1 := blk_put (cs' := #[.int .u32 a0, .int .u32 a1, .int .u32 0, .int .u32 0, .int .u32 0, .slice none 0 0, .slice none 0 0, .int .u32 0, .int .u32 0, .slice none 0 0, .int .u32 0, .int .u32 0]) e0 1 (.int .u32 a1) rfl
      have e2 := blk_put (cs' := #[.int .u32 a0, .int .u32 a1, .int .u32 a2, .int .u32 0, .int .u32 0, .slice none 0 0, .slice none 0 0, .int .u32 0, .int .u32 0, .slice none 0 0, .int .u32 0, .int .u32 0]) e1 2 (.int .u32 a2) rfl
      have e3 := blk_put (cs' := #[.int .u32 a0, .int .u32 a1, .int .u32 a2, .int .u32 a3, .int .u32 0, .slice none 0 0, .slice none 0 0, .int .u32 0, .int .u32 0, .slice none 0 0, .int .u32 0, .int .u32 0]) e2 3 (.int .u32 a3) rfl
      have e4 := blk_put (cs' := #[.int .u32 a0, .int .u32 a1, .int .u32 a2, .int .u32 a3, .int .u32 a4, .slice none 0 0, .slice none 0 0, .int .u32 0, .int .u32 0, .slice none 0 0, .int .u32 0, .int .u32 0]) e3 4 (.int .u32 a4) rfl
      have e5 := blk_put (cs' := #[.int .u32 a0, .int .u32 a1, .int .u32 a2, .int .u32 a3, .int .u32 a4, .slice A5 n5 c5, .slice none 0 0, .int .u32 0, .int .u32 0, .slice none 0 0, .int .u32 0, .int .u32 0]) e4 5 (.slice A5 n5 c5) rfl
      have e6 := blk_put (cs' := #[.int .u32 a0, .int .u32 a1, .int .u32 a2, .int .u32 a3, .int .u32 a4, .slice A5 n5 c5, .slice A6 n6 c6, .int .u32 0, .int .u32 0, .slice none 0 0, .int .u32 0, .int .u32 0]) e5 6 (.slice A6 n6 c6) rfl
      have e7 := blk_put (cs' := #[.int .u32 a0, .int .u32 a1, .int .u32 a2, .int .u32 a3, .int .u32 a4, .slice A5 n5 c5, .slice A6 n6 c6, .int .u32 s7, .int .u32 0, .slice none 0 0, .int .u32 0, .int .u32 0]) e6 7 (.int .u32 s7) rfl
      have e8 := blk_put (cs' := #[.int .u32 a0, .int .u32 a1, .int .u32 a2, .int .u32 a3, .int .u32 a4, .slice A5 n5 c5, .slice A6 n6 c6, .int .u32 s7, .int .u32 s10, .slice none 0 0, .int .u32 0, .int .u32 0]) e7 8 (.int .u32 s10) rfl
      have e9 := blk_put (cs' := #[.int .u32 a0, .int .u32 a1, .int .u32 a2, .int .u32 a3, .int .u32 a4, .slice A5 n5 c5, .slice A6 n6 c6, .int .u32 s7, .int .u32 s10, .slice Ak ms.length ck, .int .u32 0, .int .u32 0]) e8 9 (.slice Ak ms.length ck) rfl
      have e10 := blk_put (cs' := #[.int .u32 a0, .int .u32 a1, .int .u32 a2, .int .u32 a3, .int .u32 a4, .slice A5 n5 c5, .slice A6 n6 c6, .int .u32 s7, .int .u32 s10, .slice Ak ms.length ck, .int .u32 s9, .int .u32 0]) e9 10 (.int .u32 s9) rfl
      have e11 := blk_put (cs' := #[.int .u32 a0, .int .u32 a1, .int .u32 a2, .int .u32 a3, .int .u32 a4, .slice A5 n5 c5, .slice A6 n6 c6, .int .u32 s7, .int .u32 s10, .slice Ak ms.length ck, .int .u32 s9, .int .u32 s8]) e10 11 (.int .u32 s8) rfl
      refine bodyPost_ret (results_cell_row rfl _ _ b2 59 #[.int .u32 a0, .int .u32 a1, .int .u32 a2, .int .u32 a3, .int .u32 a4, .slice A5 n5 c5, .slice A6 n6 c6, .int .u32 s7, .int .u32 s10, .slice Ak ms.length ck, .int .u32 s9, .int .u32 s8] (0, 0) _ rfl e11 Try.underlying59 rfl (by kernel_rfl)) rfl ?_
      have r0 := Kd.R_set HRk.out HZ.out (by decide) 0 (.int .u32 a0)
      have r1 := Kd.R_set r0 e0 (by decide) 1 (.int .u32 a1)
      have r2 := Kd.R_set r1 e1 (by decide) 2 (.int .u32 a2)
      have r3 := Kd.R_set r2 e2 (by decide) 3 (.int .u32 a3)
      have r4 := Kd.R_set r3 e3 (by decide) 4 (.int .u32 a4)
      have r5 := Kd.R_set r4 e4 (by decide) 5 (.slice A5 n5 c5)
      have r6 := Kd.R_set r5 e5 (by decide) 6 (.slice A6 n6 c6)
      have r7 := Kd.R_set r6 e6 (by decide) 7 (.int .u32 s7)
      have r8 := Kd.R_set r7 e7 (by decide) 8 (.int .u32 s10)
      have r9 := Kd.R_set r8 e8 (by decide) 9 (.slice Ak ms.length ck)
      have r10 := Kd.R_set r9 e9 (by decide) 10 (.int .u32 s9)
      have r11 := Kd.R_set r10 e10 (by decide) 11 (.int .u32 s8)
      exact ⟨Ak, ⟨ck, rfl⟩, (Kd.R_reads' r11).2.2, (below_set (j := 11) (v := .int .u32 s8) (below_set (j := 10) (v := .int .u32 s9) (below_set (j := 9) (v := .slice Ak ms.length ck) (below_set (j := 8) (v := .int .u32 s10) (below_set (j := 7) (v := .int .u32 s7) (below_set (j := 6) (v := .slice A6 n6 c6) (below_set (j := 5) (v := .slice A5 n5 c5) (below_set (j := 4) (v := .int .u32 a4) (below_set (j := 3) (v := .int .u32 a3) (below_set (j := 2) (v := .int .u32 a2) (below_set (j := 1) (v := .int .u32 a1) (below_set (j := 0) (v := .int .u32 a0) HB.out HG2.out) HG2.out) HG2.out) HG2.out) HG2.out) HG2.out) HG2.out) HG2.out) HG2.out) HG2.out) HG2.out) HG2.out)⟩

end Go.Proofs.Ytmebogkhdbbbbaa.P

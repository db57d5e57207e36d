-- Written by a program of this session (wip/tools/hp.py) out of the translation.
import Derived.Test.YtkgjpelddncfdaaPx0
import Derived.Test.YtkgjpelddncfdaaPx2
import Derived.Test.YtkgjpelddncfdaaPx3
import Derived.Test.YtkgjpelddncfdaaPx4
import Derived.Test.YtkgjpelddncfdaaPx5
namespace Go.Proofs.Ytkgjpelddncfdaa.P
open Go.RowKit Go.Proofs.YtkgjpelddncfdaaW.PrintWords Go.Proofs.YtkgjpelddncfdaaW.PrintLast Go.Proofs.YtkgjpelddncfdaaW.PrintMore
attribute [local go_sem] max2_int min2_int max_two min_two max_three min_three max_four min_four   -- for this text's walks alone
set_option linter.unusedVariables false
set_option linter.unusedSimpArgs false

/-! ### scope_Scopes_Change: function 33 -/
set_option maxRecDepth 100000 in
set_option maxHeartbeats 1000000 in
theorem sc_Change_out {base : Nat} {w : World} {g : Nat} {col : Nat → Nat} {D M : List (List S25)} (h : IsS base w g col D M) (lv : Int) (x0 : ByteArray) (x1 x2 x3 x4 x5 : Int) (x6 : Bool) (A : Option Addr) (m c : Nat) (hn : lv < 0 ∨ (D.length : Int) ≤ lv) :
    Calls Try.prog 33 #[.pointer (some ⟨g, 0, none⟩), .int .i64 lv, .agg #[.string x0, .int .i64 x1, .int .i64 x2, .int .i64 x3, .int .i32 x4, .int .i64 x5, .bool x6, .slice A m c]] w fun e w' => e = .returned (.int .i64 110) ∧ ScDone base w g col D M w' := by
  have HS := Aside0.mk h
  have hl := h.len
  obtain ⟨go, cc, ck, Ak, vm, vs, h1, -⟩ := h.row 0 (by omega)
  have H1 := Aside0.mk h1
  have HL := Aside0.mk hl
  clear h h1 hl
  by_cases hn0 : lv < 0
  · have hd : decide (lv < 0) = true := decide_eq_true hn0
    go_enter Try.func33, Try.ntmps33
    go_wp2_with ((with_reducible refine gate_dst (N := 5) rfl ?_); refine box_event ?hg (N := 5) ?hd (cs := #[.string x0, .int .i64 x1, .int .i64 x2, .int .i64 x3, .int .i32 x4, .int .i64 x5, .bool x6, .slice A m c]) (t := 25) ?hr ?_; (case hd => rfl); (case hg => rfl); (case hr => first | (go_simp; done) | (go_simp; rfl)); intro bx hgx w3 hbox hb; have HB3 := Aside0.mk hb; have c0 : w3.cell? ⟨g, 0, none⟩ = some (.slice (some ⟨go, 0, none⟩) D.length cc) := blk_cell (blk_below H1.out hb) 0; clear hgx hbox hb)
    go_ret
    exact ⟨rfl, ScDone.of_below HS.out HB3.out⟩
  · have hn1 : (D.length : Int) ≤ lv := by omega
    have hd : decide (lv < 0) = false := decide_eq_false hn0
    have hd2 : decide (lv ≥ (D.length : Int)) = true := decide_eq_true hn1
    generalize D.length = q at *
    go_enter Try.func33, Try.ntmps33
    go_wp2_with ((with_reducible refine gate_dst (N := 5) rfl ?_); refine box_event ?hg (N := 5) ?hd (cs := #[.string x0, .int .i64 x1, .int .i64 x2, .int .i64 x3, .int .i32 x4, .int .i64 x5, .bool x6, .slice A m c]) (t := 25) ?hr ?_; (case hd => rfl); (case hg => rfl); (case hr => first | (go_simp; done) | (go_simp; rfl)); intro bx hgx w3 hbox hb; have HB3 := Aside0.mk hb; have c0 : w3.cell? ⟨g, 0, none⟩ = some (.slice (some ⟨go, 0, none⟩) q cc) := blk_cell (blk_below H1.out hb) 0; clear hgx hbox hb)
    go_ret
    exact ⟨rfl, ScDone.of_below HS.out HB3.out⟩
set_option maxRecDepth 100000 in
set_option maxHeartbeats 2000000 in
theorem sc_Change_none {base : Nat} {w : World} {g : Nat} {col : Nat → Nat} {D M : List (List S25)} (h : IsS base w g col D M) (n : Nat) (hn : n < D.length) (x0 : ByteArray) (x1 x2 x3 x4 x5 : Int) (x6 : Bool) (A : Option Addr) (m c : Nat) (r : Int) (hr : sc_ix (D.getD n []) x0 = r) (hr0 : r < 0) :
    Calls Try.prog 33 #[.pointer (some ⟨g, 0, none⟩), .int .i64 (n : Int), .agg #[.string x0, .int .i64 x1, .int .i64 x2, .int .i64 x3, .int .i32 x4, .int .i64 x5, .bool x6, .slice A m c]] w fun e w' => e = .returned (.int .i64 110) ∧ ScDone base w g col D M w' := by
  have HS := Aside0.mk h
  have hl := h.len
  obtain ⟨go, cc, ck, Ak, vm, vs, h1, h2, h3, h4, h5, h6, h7, h8, h9, h10, h11, h12, h13, h14, h15, h16⟩ := h.row n hn
  have hf : scope_find.f (D.getD n []) x0 = some r := by unfold scope_find.f; rw [if_pos (by omega), hr]
  have hrr : 0 ≤ r → r < ((D.getD n []).length : Int) := fun h0 => by
    have := os_ix_lt (sc_is x0) (D.getD n []) 0 (by omega) (by rw [show os_ix (sc_is x0) (D.getD n []) 0 = r from hr]; exact h0)
    rw [show os_ix (sc_is x0) (D.getD n []) 0 = r from hr] at this
    omega
  generalize hD : D.getD n [] = d at *
  generalize hm : d.length = q at *
  generalize hz : D.length = z at *
  have hn2 : n ≤ 64 := by omega
  have p0 : decide ((n : Int) < 0) = false := decide_eq_false (by omega)
  have p3 : decide ((n : Int) ≥ (z : Int)) = false := decide_eq_false (by omega)
  have p1 : (0 : Int) ≤ (n : Int) := by omega
  have p2 : (n : Int) < (z : Int) := by omega
  have HF := Aside0.mk hf; have HR := Aside0.mk hrr
  have H1 := Aside0.mk h1; have H2 := Aside0.mk h2; have H3 := Aside0.mk h3; have H4 := Aside0.mk h4; have H6 := Aside0.mk h6; have H7 := Aside0.mk h7; have H8 := Aside0.mk h8; have H9 := Aside0.mk h9; have H10 := Aside0.mk h10; have H11 := Aside0.mk h11; have H12 := Aside0.mk h12; have H13 := Aside0.mk h13; have H14 := Aside0.mk h14; have H15 := Aside0.mk h15; have H16 := Aside0.mk h16; have HD := Aside0.mk hD; have HL := Aside0.mk hl; have HM := Aside0.mk hm; have HZ := Aside0.mk hz; have HN := Aside0.mk hn
  clear h h1 h2 h3 h4 h5 h6 h7 h8 h9 h10 h11 h12 h13 h14 h15 h16 hl hf hD hm hz hr hrr hn
  have hq : decide (r < 0) = true := decide_eq_true hr0
  go_enter Try.func33, Try.ntmps33
  go_wp2_with ((with_reducible refine gate_dst (N := 5) rfl ?_); refine box_event ?hg (N := 5) ?hd (cs := #[.string x0, .int .i64 x1, .int .i64 x2, .int .i64 x3, .int .i32 x4, .int .i64 x5, .bool x6, .slice A m c]) (t := 25) ?hr ?_; (case hd => rfl); (case hg => rfl); (case hr => first | (go_simp; done) | (go_simp; rfl)); intro bx hgx w3 hbox hb; have HS3 := Aside0.mk (HS.out.below hb); have HB3 := Aside0.mk hb; have HX3 := Aside0.mk hbox; have HG3 := Aside0.mk (show bx = w.heap.size from hgx); have c0w3 : w3.cell? ⟨g, 0, none⟩ = some (.slice (some ⟨go, 0, none⟩) z cc) := blk_cell (blk_below H1.out hb) 0; have crw3 : w3.cell? ⟨go, n, none⟩ = some (.slice Ak q ck) := pw_cell_below hb H7.out; have hxw3 : w3.cell? ⟨bx, 0, none⟩ = some (.string x0) := blk_cell hbox 0; have c0w3d : w3.drew.cell? ⟨g, 0, none⟩ = some (.slice (some ⟨go, 0, none⟩) z cc) := c0w3; have crw3d : w3.drew.cell? ⟨go, n, none⟩ = some (.slice Ak q ck) := crw3; have hxw3d : w3.drew.cell? ⟨bx, 0, none⟩ = some (.string x0) := hxw3; clear hgx hbox hb)
  go_region_held3 (fun w' => w'.cell? ⟨g, 0, none⟩ = some (.slice (some ⟨go, 0, none⟩) z cc) ∧ w'.cell? ⟨go, n, none⟩ = some (.slice Ak q ck) ∧ w'.cell? ⟨bx, 0, none⟩ = some (.string x0)) (first | with_reducible exact ⟨c0w3d, crw3d, hxw3d⟩ | with_reducible exact ⟨c0w4, crw4, hxw4⟩) (first | (go_at_call 25; rw [← HM.out]; ((with_reducible refine (scope_find.calls Ak ck d x0 r _ (Kd.C_below (Kd.C_below (HM.out ▸ (Kd.R_reads' H9.out).2.2) HB3.out) (below_drew (Below.refl _ _))) (HM.out ▸ (Kd.R_reads' H9.out).2.1) HF.out).mono ?_)); rintro e w4 ⟨rfl, hb⟩; have hb4 := below_step (below_drew (Below.refl w3.heap.size w3)) hb; have HB4 := Aside0.mk (below_step HB3.out hb4); have HX4 := Aside0.mk (blk_below HX3.out hb4); have c0w4 : w4.cell? ⟨g, 0, none⟩ = some (.slice (some ⟨go, 0, none⟩) z cc) := blk_cell (blk_below H1.out HB4.out) 0; have crw4 : w4.cell? ⟨go, n, none⟩ = some (.slice Ak q ck) := pw_cell_below HB4.out H7.out; have hxw4 : w4.cell? ⟨bx, 0, none⟩ = some (.string x0) := blk_cell HX4.out 0; have c0w4d : w4.drew.cell? ⟨g, 0, none⟩ = some (.slice (some ⟨go, 0, none⟩) z cc) := c0w4; have crw4d : w4.drew.cell? ⟨go, n, none⟩ = some (.slice Ak q ck) := crw4; have hxw4d : w4.drew.cell? ⟨bx, 0, none⟩ = some (.string x0) := hxw4;  clear hb hb4 c0w3 crw3 hxw3 c0w3d crw3d hxw3d; try rw [HM.out]))
  go_wp2
  go_ret
  exact ⟨rfl, ScDone.of_below HS.out HB4.out⟩
def sc_chg (D : List (List S25)) (n : Nat) (r : Nat) (x : S25) : List (List S25) := D.set n ((D.getD n []).set r x)
set_option maxRecDepth 100000 in
set_option maxHeartbeats 4000000 in
theorem sc_Change_yes {base : Nat} {w : World} {g : Nat} {col : Nat → Nat} {D M : List (List S25)} (h : IsS base w g col D M) (n : Nat) (hn : n < D.length) (x0 : ByteArray) (x1 x2 x3 x4 x5 : Int) (x6 : Bool) (A : Option Addr) (m c : Nat) (x7 : List S69) (hm7 : x7.length = m) (hC7 : Kd.C k69 w A x7.length x7) (hl7 : m ≤ c ∧ m < 8796093022208) (r : Int) (hr : sc_ix (D.getD n []) x0 = r) (hr0 : 0 ≤ r) :
    Calls Try.prog 33 #[.pointer (some ⟨g, 0, none⟩), .int .i64 (n : Int), .agg #[.string x0, .int .i64 x1, .int .i64 x2, .int .i64 x3, .int .i32 x4, .int .i64 x5, .bool x6, .slice A m c]] w fun e w' => e = .returned (.int .i64 0) ∧ ScDone base w g col (sc_chg D n r.toNat ⟨x0, x1, x2, (n : Int), x4, x5, x6, x7⟩) M w' := by
  have HM7 := Aside0.mk hm7; have HC7 := Aside0.mk hC7; have HL7 := Aside0.mk hl7
  have HF7 := Aside0.mk (show slices_ClonePar.f x7 = some x7 by unfold slices_ClonePar.f; rw [if_pos (by omega)])
  clear hm7 hC7 hl7
  have HS := Aside0.mk h
  have hl := h.len
  obtain ⟨go, cc, ck, Ak, vm, vs, h1, h2, h3, h4, h5, h6, h7, h8, h9, h10, h11, h12, h13, h14, h15, h16⟩ := h.row n hn
  have hf : scope_find.f (D.getD n []) x0 = some r := by unfold scope_find.f; rw [if_pos (by omega), hr]
  have hrr : 0 ≤ r → r < ((D.getD n []).length : Int) := fun h0 => by
    have := os_ix_lt (sc_is x0) (D.getD n []) 0 (by omega) (by rw [show os_ix (sc_is x0) (D.getD n []) 0 = r from hr]; exact h0)
    rw [show os_ix (sc_is x0) (D.getD n []) 0 = r from hr] at this
    omega
  generalize hD : D.getD n [] = d at *
  generalize hm : d.length = q at *
  generalize hz : D.length = z at *
  have hn2 : n ≤ 64 := by omega
  have p0 : decide ((n : Int) < 0) = false := decide_eq_false (by omega)
  have p3 : decide ((n : Int) ≥ (z : Int)) = false := decide_eq_false (by omega)
  have p1 : (0 : Int) ≤ (n : Int) := by omega
  have p2 : (n : Int) < (z : Int) := by omega
  have HF := Aside0.mk hf; have HR := Aside0.mk hrr
  have H1 := Aside0.mk h1; have H2 := Aside0.mk h2; have H3 := Aside0.mk h3; have H4 := Aside0.mk h4; have H6 := Aside0.mk h6; have H7 := Aside0.mk h7; have H8 := Aside0.mk h8; have H9 := Aside0.mk h9; have H10 := Aside0.mk h10; have H11 := Aside0.mk h11; have H12 := Aside0.mk h12; have H13 := Aside0.mk h13; have H14 := Aside0.mk h14; have H15 := Aside0.mk h15; have H16 := Aside0.mk h16; have HD := Aside0.mk hD; have HL := Aside0.mk hl; have HM := Aside0.mk hm; have HZ := Aside0.mk hz; have HN := Aside0.mk hn
  clear h h1 h2 h3 h4 h5 h6 h7 h8 h9 h10 h11 h12 h13 h14 h15 h16 hl hf hD hm hz hr hrr hn
  have hq : decide (r < 0) = false := decide_eq_false (by omega)
  have hrq : r < (q : Int) := by have h1 := HR.out hr0; have h2 := HM.out; omega
  have HR0 := Aside0.mk (And.intro hr0 hrq)
  obtain ⟨rb, ck', hrb, hrb1, hrb2, -⟩ := Kd.R_form H9.out (by have := HM.out; omega)
  injection hrb with e1 e2 e3
  subst e1 e3
  have HRB := Aside0.mk hrb2
  clear e2 hrb1 hrb2
  obtain ⟨ce, hce, -, hcc, -⟩ := Kd.R_elem H9.out z25 r hr0 hrq
  have HCE := Aside0.mk (And.intro hce hcc)
  clear hce hcc
  go_enter Try.func33, Try.ntmps33
  go_wp2_with ((with_reducible refine gate_dst (N := 5) rfl ?_); refine box_event ?hg (N := 5) ?hd (cs := #[.string x0, .int .i64 x1, .int .i64 x2, .int .i64 x3, .int .i32 x4, .int .i64 x5, .bool x6, .slice A m c]) (t := 25) ?hr ?_; (case hd => rfl); (case hg => rfl); (case hr => first | (go_simp; done) | (go_simp; rfl)); intro bx hgx w3 hbox hb; have HS3 := Aside0.mk (HS.out.below hb); have HB3 := Aside0.mk hb; have HX3 := Aside0.mk hbox; have HG3 := Aside0.mk (show bx = w.heap.size from hgx); have c0w3 : w3.cell? ⟨g, 0, none⟩ = some (.slice (some ⟨go, 0, none⟩) z cc) := blk_cell (blk_below H1.out hb) 0; have crw3 : w3.cell? ⟨go, n, none⟩ = some (.slice (some ⟨rb, 0, none⟩) q ck) := pw_cell_below hb H7.out; have hxw3 : w3.cell? ⟨bx, 0, none⟩ = some (.string x0) := blk_cell hbox 0; have c0w3d : w3.drew.cell? ⟨g, 0, none⟩ = some (.slice (some ⟨go, 0, none⟩) z cc) := c0w3; have crw3d : w3.drew.cell? ⟨go, n, none⟩ = some (.slice (some ⟨rb, 0, none⟩) q ck) := crw3; have hxw3d : w3.drew.cell? ⟨bx, 0, none⟩ = some (.string x0) := hxw3; have hxx3 : w3.cell? ⟨bx, 3, none⟩ = _ := blk_cell hbox 3; have hxx7 : w3.cell? ⟨bx, 7, none⟩ = _ := blk_cell hbox 7; have fx3 := blk_frozen hbox 3; clear hgx hbox hb)
  go_region_held3 (fun w' => w'.cell? ⟨g, 0, none⟩ = some (.slice (some ⟨go, 0, none⟩) z cc) ∧ w'.cell? ⟨go, n, none⟩ = some (.slice (some ⟨rb, 0, none⟩) q ck) ∧ w'.cell? ⟨bx, 0, none⟩ = some (.string x0)) (first | with_reducible exact ⟨c0w3d, crw3d, hxw3d⟩ | with_reducible exact ⟨c0w4, crw4, hxw4⟩) (first | (go_at_call 25; rw [← HM.out]; ((with_reducible refine (scope_find.calls (some ⟨rb, 0, none⟩) ck d x0 r _ (Kd.C_below (Kd.C_below (HM.out ▸ (Kd.R_reads' H9.out).2.2) HB3.out) (below_drew (Below.refl _ _))) (HM.out ▸ (Kd.R_reads' H9.out).2.1) HF.out).mono ?_)); rintro e w4 ⟨rfl, hb⟩; have hb4 := below_step (below_drew (Below.refl w3.heap.size w3)) hb; have HB4 := Aside0.mk (below_step HB3.out hb4); have HX4 := Aside0.mk (blk_below HX3.out hb4); have c0w4 : w4.cell? ⟨g, 0, none⟩ = some (.slice (some ⟨go, 0, none⟩) z cc) := blk_cell (blk_below H1.out HB4.out) 0; have crw4 : w4.cell? ⟨go, n, none⟩ = some (.slice (some ⟨rb, 0, none⟩) q ck) := pw_cell_below HB4.out H7.out; have hxw4 : w4.cell? ⟨bx, 0, none⟩ = some (.string x0) := blk_cell HX4.out 0; have c0w4d : w4.drew.cell? ⟨g, 0, none⟩ = some (.slice (some ⟨go, 0, none⟩) z cc) := c0w4; have crw4d : w4.drew.cell? ⟨go, n, none⟩ = some (.slice (some ⟨rb, 0, none⟩) q ck) := crw4; have hxw4d : w4.drew.cell? ⟨bx, 0, none⟩ = some (.string x0) := hxw4; have hx43 : w4.cell? ⟨bx, 3, none⟩ = some (.int .i64 x3) := blk_cell HX4.out 3; have fx43 := blk_frozen HX4.out 3; have hx47 : w4.cell? ⟨bx, 7, none⟩ = some (.slice A m c) := blk_cell HX4.out 7; have hx473 : (w4.setCell ⟨bx, 3, none⟩ (.int .i64 (n : Int))).cell? ⟨bx, 7, none⟩ = some (.slice A m c) := blk_cell (blk_put HX4.out 3 _ rfl) 7; clear hb hb4 c0w3 crw3 hxw3 c0w3d crw3d hxw3d; try rw [HM.out]))
  go_wp2_with (first
    | (go_at_call 26; (rw [← HM7.out]; ((with_reducible refine (slices_ClonePar.calls A c x7 x7 _ (Kd.C_below HC7.out (below_set HB4.out (Nat.le_of_eq HG3.out.symm))) (HM7.out ▸ HL7.out.1) HF7.out).mono ?_)); rintro e w5 ⟨v7, rfl, ho, hb⟩; obtain ⟨A7, n7, c7, rfl⟩ := R_slc ho; have HB5 := Aside0.mk (below_step (below_set HB4.out (Nat.le_of_eq HG3.out.symm)) hb); have HX5 := Aside0.mk (blk_below (blk_put HX4.out 3 (.int .i64 (n : Int)) rfl) hb); have HP5 := Aside0.mk ho; have HZ5 := Aside0.mk (show w.heap.size ≤ (w4.setCell ⟨bx, 3, none⟩ (.int .i64 (n : Int))).heap.size from (below_set HB4.out (Nat.le_of_eq HG3.out.symm)).size); have fx57 := blk_frozen HX5.out 7; have hx57 : w5.cell? ⟨bx, 7, none⟩ = some (.slice A x7.length c) := by rw [HM7.out]; exact blk_cell HX5.out 7; try clear hb; try clear ho)))
  obtain ⟨W6, hW6⟩ : ∃ W6, W6 = (w5.setCell ⟨bx, 7, none⟩ (.slice A7 n7 c7)).drew := ⟨_, rfl⟩
  have HBB := Aside0.mk (show base ≤ w.heap.size by have := H12.out; have := H13.out; omega)
  have HB6 := Aside0.mk (show Below w.heap.size w W6 by rw [hW6]; exact below_drew (below_set HB5.out (Nat.le_of_eq HG3.out.symm)))
  have HP6 := Aside0.mk (show Kd.R k69 69 W6 base (fun k => w.heap.size ≤ k) (.slice A7 n7 c7) x7 by
    rw [hW6]
    exact Kd.R_mono (Kd.R_bound (Kd.R_lower (Kd.R_lower (Kd.R_mono (Kd.R_bound (Kd.R_drew (Kd.R_set HP5.out HX5.out (by decide) 7 (.slice A7 n7 c7)))) (ok' := fun k => w.heap.size ≤ k) (fun k hk => Nat.le_trans HZ5.out hk.2.1)) HZ5.out) HBB.out)) (fun k hk => hk.1))
  have c06 : (w5.setCell ⟨bx, 7, none⟩ (.slice A7 n7 c7)).cell? ⟨g, 0, none⟩ = some (.slice (some ⟨go, 0, none⟩) z cc) := blk_cell (blk_below H1.out (below_set HB5.out (Nat.le_of_eq HG3.out.symm))) 0
  have cr5 : (w5.setCell ⟨bx, 7, none⟩ (.slice A7 n7 c7)).cell? ⟨go, n, none⟩ = some (.slice (some ⟨rb, 0, none⟩) q ck) := pw_cell_below (below_set HB5.out (Nat.le_of_eq HG3.out.symm)) H7.out
  have cx0 : (w5.setCell ⟨bx, 7, none⟩ (.slice A7 n7 c7)).cell? ⟨bx, 0, none⟩ = some (.string x0) := blk_cell (blk_put HX5.out 7 _ rfl) 0
  have cx1 : (w5.setCell ⟨bx, 7, none⟩ (.slice A7 n7 c7)).cell? ⟨bx, 1, none⟩ = some (.int .i64 x1) := blk_cell (blk_put HX5.out 7 _ rfl) 1
  have cx2 : (w5.setCell ⟨bx, 7, none⟩ (.slice A7 n7 c7)).cell? ⟨bx, 2, none⟩ = some (.int .i64 x2) := blk_cell (blk_put HX5.out 7 _ rfl) 2
  have cx3 : (w5.setCell ⟨bx, 7, none⟩ (.slice A7 n7 c7)).cell? ⟨bx, 3, none⟩ = some (.int .i64 (n : Int)) := blk_cell (blk_put HX5.out 7 _ rfl) 3
  have cx4 : (w5.setCell ⟨bx, 7, none⟩ (.slice A7 n7 c7)).cell? ⟨bx, 4, none⟩ = some (.int .i32 x4) := blk_cell (blk_put HX5.out 7 _ rfl) 4
  have cx5 : (w5.setCell ⟨bx, 7, none⟩ (.slice A7 n7 c7)).cell? ⟨bx, 5, none⟩ = some (.int .i64 x5) := blk_cell (blk_put HX5.out 7 _ rfl) 5
  have cx6 : (w5.setCell ⟨bx, 7, none⟩ (.slice A7 n7 c7)).cell? ⟨bx, 6, none⟩ = some (.bool x6) := blk_cell (blk_put HX5.out 7 _ rfl) 6
  have cx7 : (w5.setCell ⟨bx, 7, none⟩ (.slice A7 n7 c7)).cell? ⟨bx, 7, none⟩ = some (.slice A7 n7 c7) := blk_cell (blk_put HX5.out 7 _ rfl) 7
  generalize hW5 : w5.setCell ⟨bx, 7, none⟩ (.slice A7 n7 c7) = W5 at hW6 c06 cr5 cx0 cx1 cx2 cx3 cx4 cx5 cx6 cx7 ⊢
  clear hW5
  go_still_tail 10, (by kernel_rfl)
  change wpList _ _ _ _ _ W5.drew
  rw [← hW6]
  clear hW6 c06 cr5 cx0 cx1 cx2 cx3 cx4 cx5 cx6 cx7
  obtain ⟨hce, hcc⟩ := HCE.out
  go_wp2_with ((with_reducible refine gate_store (t := 25) (p := 46) (v := .tmp 45) rfl ?_); go_loud (refine Kd.R_store k25 (w0 := w) base rfl rfl 25 (.tmp 46) (.tmp 45) rfl 25 (g := rb) (n := q) (cap := ck) (o' := r.toNat * 8) r 0 d (⟨x0, x1, x2, (n : Int), x4, x5, x6, x7⟩ : S25) (.agg #[.string x0, .int .i64 x1, .int .i64 x2, .int .i64 (n : Int), .int .i32 x4, .int .i64 x5, .bool x6, .slice A7 n7 c7]) [.string x0, .int .i64 x1, .int .i64 x2, .int .i64 (n : Int), .int .i32 x4, .int .i64 x5, .bool x6, .slice A7 n7 c7] ce (OkC col w.heap.size (4 + n) (4 + n)) (fun k => w.heap.size ≤ k) (by first | rfl | (go_simp; done)) rfl (by first | rfl | (go_simp; done)) rfl (by kernel_rfl) ?a1 ?aO HR0.out.1 HR0.out.2 hce (fun j u hu => pw_cell_below HB6.out (hcc j u hu)) (by show 0 + 8 ≤ 8; omega) ?aM ?aK (HB6.out.mono HBB.out) ?_; (case a1 => intro u hu; simp only [List.mem_cons, List.not_mem_nil, or_false] at hu; rcases hu with rfl | rfl | rfl | rfl | rfl | rfl | rfl | rfl <;> rfl); (case aO => exact Kd.R_mono (Kd.R_below H9.out HB6.out) (fun k hk => .inl hk)); (case aM => simp only [List.take_zero, List.nil_append]; rw [List.drop_eq_nil_of_le (by rw [hce]; exact Nat.le_refl 8), List.append_nil]; exact k25_mkM _ _ _ (⟨x0, x1, x2, (n : Int), x4, x5, x6, x7⟩ : S25) HP6.out); (case aK => exact fun k hk => ⟨.inr ⟨rfl, hk⟩, fun e => by have := HRB.out; omega⟩); intro w1 ho hb hg; have HO := Aside0.mk ho; have HBW := Aside0.mk hb; have HGR := Aside0.mk hg; clear ho hb hg))
  go_ret
  have hkept : Kept w w1 (fun k => Cs [4 + n] (col k)) :=
    Kept.of_grown HGR.out (Kept.of_below HB6.out _) (fun k hk => .inl (by injection hk with hk; subst hk; have e : col rb = 4 + n := H9.out.1 rb rfl; rw [e]; simp [Cs]))
  have e1 : sc_chg D n r.toNat (⟨x0, x1, x2, (n : Int), x4, x5, x6, x7⟩ : S25) = D.set n (d.set r.toNat (⟨x0, x1, x2, (n : Int), x4, x5, x6, x7⟩ : S25)) := by unfold sc_chg; rw [HD.out]
  rw [e1]
  have hout := Kd.R_grown (Kd.R_below H3.out HB6.out) HGR.out (fun k hk e => by injection e with e; have e2 : col rb = 4 + n := H9.out.1 rb rfl; have e3 : col k = 2 := hk; rw [e] at e3; omega)
  have hrne : some g ≠ some rb := fun e => by injection e with e; have e2 : col rb = 4 + n := H9.out.1 rb rfl; have e3 := H2.out; rw [e] at e3; omega
  have hg1 := blk_grown (blk_below H1.out HB6.out) HGR.out hrne
  refine ⟨rfl, recol col w.heap.size w1.heap.size (4 + n), ⟨.slice (some ⟨go, 0, none⟩) z cc, vm, vs, hg1, ?_, ?_, ?_, ?_, ?_, ?_, ?_⟩, recol_ScK (S := Cs [4 + n]) HBW.out hkept (by simp [Cs]; omega)⟩
  · rw [recol_old HS.out.base.2]; exact H2.out
  · exact recol_R H16.out (by decide) (Kd.R_mono hout (fun k hk => .inl hk))
  · rw [List.length_set, HZ.out]; exact H4.out
  · intro i x e hx he
    rcases set_get he with ⟨rfl, rfl⟩ | ⟨hi, he'⟩
    · have e3 : x = ⟨some ⟨rb, 0, none⟩, q, ck⟩ := by have := H6.out; rw [hx] at this; injection this
      subst e3
      exact recol_R H16.out (by omega) HO.out
    · exact recol_R0 H16.out (by omega) (H14.out i x e hx he') hkept (by simp [Cs]; omega)
  · exact recol_R0 H16.out (by decide) H15.out hkept (by simp [Cs]; omega)
  · exact recol_hcol H16.out HBB.out hkept.1
  · have h8 := HL.out
    refine ⟨by rw [List.length_set, HZ.out]; exact h8.1, by rw [List.length_set, HZ.out]; exact h8.2.1, h8.2.2.1, fun e he => ?_⟩
    obtain ⟨i, hi⟩ := List.mem_iff_getElem?.1 he
    rcases set_get hi with ⟨_, rfl⟩ | ⟨_, hi'⟩
    · rw [List.length_set]; have := HM.out; have := H10.out; omega
    · exact h8.2.2.2 e (List.mem_of_getElem? hi')

end Go.Proofs.Ytkgjpelddncfdaa.P

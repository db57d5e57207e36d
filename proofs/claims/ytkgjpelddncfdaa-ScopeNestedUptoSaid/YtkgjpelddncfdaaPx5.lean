-- Written by a program of this session (wip/tools/hp.py) out of the translation.
import Derived.Test.YtkgjpelddncfdaaPx0
import Derived.Test.YtkgjpelddncfdaaPx2
import Derived.Test.YtkgjpelddncfdaaPx3
import Derived.Test.YtkgjpelddncfdaaPx4
namespace Go.Proofs.Ytkgjpelddncfdaa.P
open Go.RowKit Go.Proofs.YtkgjpelddncfdaaW.PrintWords Go.Proofs.YtkgjpelddncfdaaW.PrintLast Go.Proofs.YtkgjpelddncfdaaW.PrintMore
attribute [local go_sem] max2_int min2_int max_two min_two max_three min_three max_four min_four   -- for this text's walks alone
set_option linter.unusedVariables false
set_option linter.unusedSimpArgs false

/-! ### scope_Scopes_Declare: function 11 -/
theorem sv_rd {vs : List SV} {i : Nat} {x : SV} (h : vs[i]? = some x) : rdOf ⟨none, 0, 0⟩ vs (i : Int) = x := by
  unfold rdOf
  rw [Int.toNat_natCast, List.getD_eq_getElem?_getD, h]
  rfl
/-- One of the rows that are open, and where it lies. -/
theorem IsS.row {base : Nat} {w : World} {g : Nat} {col : Nat → Nat} {D M : List (List S25)} (h : IsS base w g col D M) (i : Nat) (hi : i < D.length) :
    ∃ (go c ck : Nat) (Ak : Option Addr) (vm : Value) (vs : List SV), w.heap[g]? = some (.cells #[.slice (some ⟨go, 0, none⟩) D.length c, vm] 64 (0, 0)) ∧ col g = 1 ∧
      Kd.R kSV 66 w base (fun k => col k = 2) (.slice (some ⟨go, 0, none⟩) D.length c) vs ∧ vs.length = D.length ∧ D.length ≤ c ∧ vs[i]? = some ⟨Ak, (D.getD i []).length, ck⟩ ∧
      w.cell? ⟨go, i, none⟩ = some (.slice Ak (D.getD i []).length ck) ∧ w.frozen? ⟨go, i, none⟩ = false ∧
      Kd.R k25 25 w base (fun k => col k = 4 + i) (.slice Ak (D.getD i []).length ck) (D.getD i []) ∧ (D.getD i []).length ≤ 4096 ∧ col go = 2 ∧ base ≤ go ∧ go < w.heap.size ∧
      (∀ (j : Nat) (x : SV) (d : List S25), vs[j]? = some x → D[j]? = some d → Kd.R k25 25 w base (fun k => col k = 4 + j) x.v d) ∧
      Kd.R (Kd.slice 25 k25) 66 w base (fun k => col k = 3) vm M ∧ (∀ k, col k ≠ 0 → base ≤ k ∧ k < w.heap.size) := by
  obtain ⟨vo, vm, vs, h1, h2, h3, h4, h5, h6, h7, h8, h9, h10, h11⟩ := h
  obtain ⟨go, c, rfl, hb, hl, _⟩ := Kd.R_form h3 (by omega)
  have hd : D[i]? = some (D.getD i []) := by rw [List.getD_eq_getElem?_getD, List.getElem?_eq_getElem hi]; rfl
  obtain ⟨x, hx⟩ : ∃ x, vs[i]? = some x := ⟨_, List.getElem?_eq_getElem (by omega)⟩
  have hr := h5 i x _ hx hd
  obtain ⟨Ak, ck, hv⟩ := Kd.R_slice hr
  obtain ⟨xA, xn, xc⟩ := x
  injection hv with e1 e2 e3
  subst e1 e2 e3
  have hcell := Kd.R_cell (⟨none, 0, 0⟩ : SV) h3 (i : Int) (by omega) (by omega)
  rw [sv_rd hx, Int.toNat_natCast] at hcell
  rw [h4] at h1 h3
  refine ⟨go, c, xc, xA, vm, vs, h1, h2, h3, h4, ?_, hx, hcell.1, hcell.2, hr, ?_, h3.1 go rfl, hb, hl, h5, h6, h7⟩
  · exact (Kd.R_reads' h3).2.1
  · exact h11 _ (List.mem_of_getElem? hd)
def sc_cells (x : S25) (v : Value) : Array Value := #[.string x.f0, .int .i64 x.f1, .int .i64 x.f2, .int .i64 x.f3, .int .i32 x.f4, .int .i64 x.f5, .bool x.f6, v]
theorem ScDone.of_below {base : Nat} {w w' : World} {g : Nat} {col : Nat → Nat} {D M : List (List S25)} (h : IsS base w g col D M) (hb : Below w.heap.size w w') : ScDone base w g col D M w' :=
  ⟨col, h.below hb, ScK.of_below hb (by have := h.base; omega)⟩
-- DECLARE
set_option maxRecDepth 100000 in
set_option maxHeartbeats 1000000 in
theorem sc_Declare_name {base : Nat} {w : World} {g : Nat} {col : Nat → Nat} {D M : List (List S25)} (h : IsS base w g col D M) (x0 : ByteArray) (x1 x2 x3 x4 x5 : Int) (x6 : Bool) (A : Option Addr) (m c : Nat) (hn : x0.toList.isEmpty = true ∨ (x0.toList.isEmpty = false ∧ 32 < x0.size)) :
    Calls Try.prog 11 #[.pointer (some ⟨g, 0, none⟩), .agg #[.string x0, .int .i64 x1, .int .i64 x2, .int .i64 x3, .int .i32 x4, .int .i64 x5, .bool x6, .slice A m c]] w fun e w' => e = .returned (.int .i64 140) ∧ ScDone base w g col D M w' := by
  have HS := Aside0.mk h
  have hl := h.len
  obtain ⟨go, cc, ck, Ak, vm, vs, h1, -⟩ := h.row 0 (by omega)
  obtain ⟨n, hn'⟩ : ∃ n : Nat, D.length = n + 1 := ⟨D.length - 1, by omega⟩
  rw [hn'] at h1
  have hn2 : n ≤ 64 := by omega
  have H1 := Aside0.mk h1
  clear h h1 hl hn'
  rcases hn with hn | hn
  · go_enter Try.func11, Try.ntmps11
    go_wp2_with ((with_reducible refine gate_dst (N := 3) rfl ?_); refine box_event ?hg (N := 3) ?hd (cs := #[.string x0, .int .i64 x1, .int .i64 x2, .int .i64 x3, .int .i32 x4, .int .i64 x5, .bool x6, .slice A m c]) (t := 25) ?hr ?_; (case hd => rfl); (case hg => rfl); (case hr => first | (go_simp; done) | (go_simp; rfl)); intro bx hgx w3 hbox hb; have HS3 := Aside0.mk (HS.out.below hb); have HB3 := Aside0.mk hb; have c0 : w3.cell? ⟨g, 0, none⟩ = some (.slice (some ⟨go, 0, none⟩) (n + 1) cc) := blk_cell (blk_below H1.out hb) 0; have hx0 : w3.cell? ⟨bx, 0, none⟩ = some (.string x0) := blk_cell hbox 0; clear hgx hbox hb)
    go_ret
    exact ⟨rfl, ScDone.of_below HS.out HB3.out⟩
  · obtain ⟨hz, hn⟩ := hn
    have hz2 : decide ((x0.size : Int) > 32) = true := decide_eq_true (by omega)
    go_enter Try.func11, Try.ntmps11
    go_wp2_with ((with_reducible refine gate_dst (N := 3) rfl ?_); refine box_event ?hg (N := 3) ?hd (cs := #[.string x0, .int .i64 x1, .int .i64 x2, .int .i64 x3, .int .i32 x4, .int .i64 x5, .bool x6, .slice A m c]) (t := 25) ?hr ?_; (case hd => rfl); (case hg => rfl); (case hr => first | (go_simp; done) | (go_simp; rfl)); intro bx hgx w3 hbox hb; have HS3 := Aside0.mk (HS.out.below hb); have HB3 := Aside0.mk hb; have c0 : w3.cell? ⟨g, 0, none⟩ = some (.slice (some ⟨go, 0, none⟩) (n + 1) cc) := blk_cell (blk_below H1.out hb) 0; have hx0 : w3.cell? ⟨bx, 0, none⟩ = some (.string x0) := blk_cell hbox 0; clear hgx hbox hb)
    go_ret
    exact ⟨rfl, ScDone.of_below HS.out HB3.out⟩
set_option maxRecDepth 100000 in
set_option maxHeartbeats 2000000 in
theorem sc_Declare_twice {base : Nat} {w : World} {g : Nat} {col : Nat → Nat} {D M : List (List S25)} (h : IsS base w g col D M) (x0 : ByteArray) (x1 x2 x3 x4 x5 : Int) (x6 : Bool) (A : Option Addr) (m c : Nat) (hnm : x0.toList.isEmpty = false ∧ x0.size ≤ 32) (r : Int) (hr0 : 0 ≤ r) (hr : sc_ix (D.getD (D.length - 1) []) x0 = r) :
    Calls Try.prog 11 #[.pointer (some ⟨g, 0, none⟩), .agg #[.string x0, .int .i64 x1, .int .i64 x2, .int .i64 x3, .int .i32 x4, .int .i64 x5, .bool x6, .slice A m c]] w fun e w' => e = .returned (.int .i64 51) ∧ ScDone base w g col D M w' := by
  obtain ⟨hz, hz3⟩ := hnm
  have hnm := hz
  have HS := Aside0.mk h
  have hl := h.len
  obtain ⟨n, hn'⟩ : ∃ n : Nat, D.length = n + 1 := ⟨D.length - 1, by omega⟩
  obtain ⟨go, cc, ck, Ak, vm, vs, h1, h2, h3, h4, h5, h6, h7, h8, h9, h10, h11, h12, h13, h14, h15, h16⟩ := h.row n (by omega)
  have hf := (show scope_find.f (D.getD n []) x0 = some r by unfold scope_find.f; rw [if_pos (by omega)]; rw [hn'] at hr; exact congrArg some hr)
  generalize hD : D.getD n [] = d at *
  generalize hm : d.length = q at *
  rw [hn'] at h1 h3 h5
  have hn2 : n ≤ 64 := by omega
  have hz2 : decide ((x0.size : Int) > 32) = false := decide_eq_false (by omega)
  have p1 : (0 : Int) ≤ (n : Int) := by omega
  have p2 : (n : Int) < (n : Int) + 1 := by omega
  have p2b : (n : Int) < ((n + 1 : Nat) : Int) := by omega
  have HF := Aside0.mk hf
  have H1 := Aside0.mk h1; have H2 := Aside0.mk h2; have H3 := Aside0.mk h3; have H4 := Aside0.mk h4; have H6 := Aside0.mk h6; have H7 := Aside0.mk h7; have H8 := Aside0.mk h8; have H9 := Aside0.mk h9; have H10 := Aside0.mk h10; have H11 := Aside0.mk h11; have H12 := Aside0.mk h12; have H13 := Aside0.mk h13; have H14 := Aside0.mk h14; have H15 := Aside0.mk h15; have H16 := Aside0.mk h16; have HN := Aside0.mk hn'; have HD := Aside0.mk hD; have HL := Aside0.mk hl; have HM := Aside0.mk hm
  clear h h1 h2 h3 h4 h5 h6 h7 h8 h9 h10 h11 h12 h13 h14 h15 h16 hl hn' hf hD hm hr
  go_enter Try.func11, Try.ntmps11
  go_wp2_with ((with_reducible refine gate_dst (N := 3) rfl ?_); refine box_event ?hg (N := 3) ?hd (cs := #[.string x0, .int .i64 x1, .int .i64 x2, .int .i64 x3, .int .i32 x4, .int .i64 x5, .bool x6, .slice A m c]) (t := 25) ?hr ?_; (case hd => rfl); (case hg => rfl); (case hr => first | (go_simp; done) | (go_simp; rfl)); intro bx hgx w3 hbox hb; have HS3 := Aside0.mk (HS.out.below hb); have HB3 := Aside0.mk hb; have HX3 := Aside0.mk hbox; have HG3 := Aside0.mk (show bx = w.heap.size from hgx); have c0w3 : w3.cell? ⟨g, 0, none⟩ = some (.slice (some ⟨go, 0, none⟩) (n + 1) cc) := blk_cell (blk_below H1.out hb) 0; have crw3 : w3.cell? ⟨go, n, none⟩ = some (.slice Ak q ck) := pw_cell_below hb H7.out; have hxw3 : w3.cell? ⟨bx, 0, none⟩ = some (.string x0) := blk_cell hbox 0; have c0w3d : w3.drew.cell? ⟨g, 0, none⟩ = some (.slice (some ⟨go, 0, none⟩) (n + 1) cc) := c0w3; have crw3d : w3.drew.cell? ⟨go, n, none⟩ = some (.slice Ak q ck) := crw3; have hxw3d : w3.drew.cell? ⟨bx, 0, none⟩ = some (.string x0) := hxw3; clear hgx hbox hb)
  go_region_held3 (fun w' => w'.cell? ⟨g, 0, none⟩ = some (.slice (some ⟨go, 0, none⟩) (n + 1) cc) ∧ w'.cell? ⟨go, n, none⟩ = some (.slice Ak q ck) ∧ w'.cell? ⟨bx, 0, none⟩ = some (.string x0)) (first | with_reducible exact ⟨c0w3d, crw3d, hxw3d⟩ | with_reducible exact ⟨c0w4, crw4, hxw4⟩) (first | (go_at_call 25; rw [← HM.out]; ((with_reducible refine (scope_find.calls Ak ck d x0 r _ (Kd.C_below (Kd.C_below (HM.out ▸ (Kd.R_reads' H9.out).2.2) HB3.out) (below_drew (Below.refl _ _))) (HM.out ▸ (Kd.R_reads' H9.out).2.1) HF.out).mono ?_)); rintro e w4 ⟨rfl, hb⟩; have hb4 := below_step (below_drew (Below.refl w3.heap.size w3)) hb; have HB4 := Aside0.mk (below_step HB3.out hb4); have HX4 := Aside0.mk (blk_below HX3.out hb4); have c0w4 : w4.cell? ⟨g, 0, none⟩ = some (.slice (some ⟨go, 0, none⟩) (n + 1) cc) := blk_cell (blk_below H1.out HB4.out) 0; have crw4 : w4.cell? ⟨go, n, none⟩ = some (.slice Ak q ck) := pw_cell_below HB4.out H7.out; have hxw4 : w4.cell? ⟨bx, 0, none⟩ = some (.string x0) := blk_cell HX4.out 0; have c0w4d : w4.drew.cell? ⟨g, 0, none⟩ = some (.slice (some ⟨go, 0, none⟩) (n + 1) cc) := c0w4; have crw4d : w4.drew.cell? ⟨go, n, none⟩ = some (.slice Ak q ck) := crw4; have hxw4d : w4.drew.cell? ⟨bx, 0, none⟩ = some (.string x0) := hxw4; clear hb hb4 c0w3 crw3 hxw3 c0w3d crw3d hxw3d; try rw [HM.out]))
  go_wp2
  go_ret
  exact ⟨rfl, ScDone.of_below HS.out HB4.out⟩
set_option maxRecDepth 100000 in
set_option maxHeartbeats 2000000 in
theorem sc_Declare_full {base : Nat} {w : World} {g : Nat} {col : Nat → Nat} {D M : List (List S25)} (h : IsS base w g col D M) (x0 : ByteArray) (x1 x2 x3 x4 x5 : Int) (x6 : Bool) (A : Option Addr) (m c : Nat) (hnm : x0.toList.isEmpty = false ∧ x0.size ≤ 32) (hr : sc_ix (D.getD (D.length - 1) []) x0 = -1) (hq : (D.getD (D.length - 1) []).length = 4096) :
    Calls Try.prog 11 #[.pointer (some ⟨g, 0, none⟩), .agg #[.string x0, .int .i64 x1, .int .i64 x2, .int .i64 x3, .int .i32 x4, .int .i64 x5, .bool x6, .slice A m c]] w fun e w' => e = .returned (.int .i64 242) ∧ ScDone base w g col D M w' := by
  obtain ⟨hz, hz3⟩ := hnm
  have hnm := hz
  have HS := Aside0.mk h
  have hl := h.len
  obtain ⟨n, hn'⟩ : ∃ n : Nat, D.length = n + 1 := ⟨D.length - 1, by omega⟩
  obtain ⟨go, cc, ck, Ak, vm, vs, h1, h2, h3, h4, h5, h6, h7, h8, h9, h10, h11, h12, h13, h14, h15, h16⟩ := h.row n (by omega)
  have hf := (show scope_find.f (D.getD n []) x0 = some (-1) by unfold scope_find.f; rw [if_pos (by omega)]; rw [hn'] at hr; exact congrArg some hr)
  generalize hD : D.getD n [] = d at *
  generalize hm : d.length = q at *
  rw [hn'] at h1 h3 h5
  have hn2 : n ≤ 64 := by omega
  have hz2 : decide ((x0.size : Int) > 32) = false := decide_eq_false (by omega)
  have p1 : (0 : Int) ≤ (n : Int) := by omega
  have p2 : (n : Int) < (n : Int) + 1 := by omega
  have p2b : (n : Int) < ((n + 1 : Nat) : Int) := by omega
  have HF := Aside0.mk hf
  have H1 := Aside0.mk h1; have H2 := Aside0.mk h2; have H3 := Aside0.mk h3; have H4 := Aside0.mk h4; have H6 := Aside0.mk h6; have H7 := Aside0.mk h7; have H8 := Aside0.mk h8; have H9 := Aside0.mk h9; have H10 := Aside0.mk h10; have H11 := Aside0.mk h11; have H12 := Aside0.mk h12; have H13 := Aside0.mk h13; have H14 := Aside0.mk h14; have H15 := Aside0.mk h15; have H16 := Aside0.mk h16; have HN := Aside0.mk hn'; have HD := Aside0.mk hD; have HL := Aside0.mk hl; have HM := Aside0.mk hm
  clear h h1 h2 h3 h4 h5 h6 h7 h8 h9 h10 h11 h12 h13 h14 h15 h16 hl hn' hf hD hm hr
  have hq2 : (4096 : Int) ≤ (q : Int) := by have h1 := HM.out; have h2 := HN.out; have h3 := HD.out; rw [h2] at hq; rw [← h1, ← h3]; simp only [Nat.add_sub_cancel] at hq; omega
  clear hq
  go_enter Try.func11, Try.ntmps11
  go_wp2_with ((with_reducible refine gate_dst (N := 3) rfl ?_); refine box_event ?hg (N := 3) ?hd (cs := #[.string x0, .int .i64 x1, .int .i64 x2, .int .i64 x3, .int .i32 x4, .int .i64 x5, .bool x6, .slice A m c]) (t := 25) ?hr ?_; (case hd => rfl); (case hg => rfl); (case hr => first | (go_simp; done) | (go_simp; rfl)); intro bx hgx w3 hbox hb; have HS3 := Aside0.mk (HS.out.below hb); have HB3 := Aside0.mk hb; have HX3 := Aside0.mk hbox; have HG3 := Aside0.mk (show bx = w.heap.size from hgx); have c0w3 : w3.cell? ⟨g, 0, none⟩ = some (.slice (some ⟨go, 0, none⟩) (n + 1) cc) := blk_cell (blk_below H1.out hb) 0; have crw3 : w3.cell? ⟨go, n, none⟩ = some (.slice Ak q ck) := pw_cell_below hb H7.out; have hxw3 : w3.cell? ⟨bx, 0, none⟩ = some (.string x0) := blk_cell hbox 0; have c0w3d : w3.drew.cell? ⟨g, 0, none⟩ = some (.slice (some ⟨go, 0, none⟩) (n + 1) cc) := c0w3; have crw3d : w3.drew.cell? ⟨go, n, none⟩ = some (.slice Ak q ck) := crw3; have hxw3d : w3.drew.cell? ⟨bx, 0, none⟩ = some (.string x0) := hxw3; clear hgx hbox hb)
  go_region_held3 (fun w' => w'.cell? ⟨g, 0, none⟩ = some (.slice (some ⟨go, 0, none⟩) (n + 1) cc) ∧ w'.cell? ⟨go, n, none⟩ = some (.slice Ak q ck) ∧ w'.cell? ⟨bx, 0, none⟩ = some (.string x0)) (first | with_reducible exact ⟨c0w3d, crw3d, hxw3d⟩ | with_reducible exact ⟨c0w4, crw4, hxw4⟩) (first | (go_at_call 25; rw [← HM.out]; ((with_reducible refine (scope_find.calls Ak ck d x0 (-1) _ (Kd.C_below (Kd.C_below (HM.out ▸ (Kd.R_reads' H9.out).2.2) HB3.out) (below_drew (Below.refl _ _))) (HM.out ▸ (Kd.R_reads' H9.out).2.1) HF.out).mono ?_)); rintro e w4 ⟨rfl, hb⟩; have hb4 := below_step (below_drew (Below.refl w3.heap.size w3)) hb; have HB4 := Aside0.mk (below_step HB3.out hb4); have HX4 := Aside0.mk (blk_below HX3.out hb4); have c0w4 : w4.cell? ⟨g, 0, none⟩ = some (.slice (some ⟨go, 0, none⟩) (n + 1) cc) := blk_cell (blk_below H1.out HB4.out) 0; have crw4 : w4.cell? ⟨go, n, none⟩ = some (.slice Ak q ck) := pw_cell_below HB4.out H7.out; have hxw4 : w4.cell? ⟨bx, 0, none⟩ = some (.string x0) := blk_cell HX4.out 0; have c0w4d : w4.drew.cell? ⟨g, 0, none⟩ = some (.slice (some ⟨go, 0, none⟩) (n + 1) cc) := c0w4; have crw4d : w4.drew.cell? ⟨go, n, none⟩ = some (.slice Ak q ck) := crw4; have hxw4d : w4.drew.cell? ⟨bx, 0, none⟩ = some (.string x0) := hxw4; clear hb hb4 c0w3 crw3 hxw3 c0w3d crw3d hxw3d; try rw [HM.out]))
  go_wp2
  go_ret
  exact ⟨rfl, ScDone.of_below HS.out HB4.out⟩
set_option maxRecDepth 100000 in
theorem sc_info25 : (Try.prog.info? 25).map (fun i => (i.zero, i.size, i.bytes)) = some (some (.agg #[(.string ⟨#[]⟩), (.int .i64 0), (.int .i64 0), (.int .i64 0), (.int .i32 0), (.int .i64 0), (.bool false), (.slice none 0 0)]), 8, 88) := by kernel_rfl
theorem set_get {α : Type} {l : List α} {n i : Nat} {y x : α} (h : (l.set n y)[i]? = some x) : (i = n ∧ x = y) ∨ (i ≠ n ∧ l[i]? = some x) := by
  by_cases e : i = n
  · subst e
    rw [List.getElem?_set] at h
    simp only [if_true] at h
    split at h
    · injection h with h; exact .inl ⟨rfl, h.symm⟩
    · cases h
  · rw [List.getElem?_set_ne (fun e2 => e e2.symm)] at h
    exact .inr ⟨e, h⟩
def sc_put (D : List (List S25)) (x : S25) : List (List S25) := D.set (D.length - 1) (D.getD (D.length - 1) [] ++ [x])
set_option maxRecDepth 100000 in
set_option maxHeartbeats 4000000 in
theorem sc_Declare_yes {base : Nat} {w : World} {g : Nat} {col : Nat → Nat} {D M : List (List S25)} (h : IsS base w g col D M) (x0 : ByteArray) (x1 x2 x3 x4 x5 : Int) (x6 : Bool) (A : Option Addr) (m c : Nat) (x7 : List S69) (hm7 : x7.length = m) (hC7 : Kd.C k69 w A x7.length x7) (hl7 : m ≤ c ∧ m < 8796093022208) (hnm : x0.toList.isEmpty = false ∧ x0.size ≤ 32) (hr : sc_ix (D.getD (D.length - 1) []) x0 = -1) (hq : (D.getD (D.length - 1) []).length < 4096) :
    Calls Try.prog 11 #[.pointer (some ⟨g, 0, none⟩), .agg #[.string x0, .int .i64 x1, .int .i64 x2, .int .i64 x3, .int .i32 x4, .int .i64 x5, .bool x6, .slice A m c]] w fun e w' => e = .returned (.int .i64 0) ∧ ScDone base w g col (sc_put D ⟨x0, x1, x2, (D.length : Int) - 1, x4, x5, x6, x7⟩) M w' := by
  have HM7 := Aside0.mk hm7; have HC7 := Aside0.mk hC7; have HL7 := Aside0.mk hl7
  have HF7 := Aside0.mk (show slices_ClonePar.f x7 = some x7 by unfold slices_ClonePar.f; rw [if_pos (by omega)])
  clear hm7 hC7 hl7
  obtain ⟨hz, hz3⟩ := hnm
  have hnm := hz
  have HS := Aside0.mk h
  have hl := h.len
  obtain ⟨n, hn'⟩ : ∃ n : Nat, D.length = n + 1 := ⟨D.length - 1, by omega⟩
  obtain ⟨go, cc, ck, Ak, vm, vs, h1, h2, h3, h4, h5, h6, h7, h8, h9, h10, h11, h12, h13, h14, h15, h16⟩ := h.row n (by omega)
  have hf := (show scope_find.f (D.getD n []) x0 = some (-1) by unfold scope_find.f; rw [if_pos (by omega)]; rw [hn'] at hr; exact congrArg some hr)
  generalize hD : D.getD n [] = d at *
  generalize hm : d.length = q at *
  rw [hn'] at h1 h3 h5
  have hn2 : n ≤ 64 := by omega
  have hz2 : decide ((x0.size : Int) > 32) = false := decide_eq_false (by omega)
  have p1 : (0 : Int) ≤ (n : Int) := by omega
  have p2 : (n : Int) < (n : Int) + 1 := by omega
  have p2b : (n : Int) < ((n + 1 : Nat) : Int) := by omega
  have HF := Aside0.mk hf
  have H1 := Aside0.mk h1; have H2 := Aside0.mk h2; have H3 := Aside0.mk h3; have H4 := Aside0.mk h4; have H6 := Aside0.mk h6; have H7 := Aside0.mk h7; have H8 := Aside0.mk h8; have H9 := Aside0.mk h9; have H10 := Aside0.mk h10; have H11 := Aside0.mk h11; have H12 := Aside0.mk h12; have H13 := Aside0.mk h13; have H14 := Aside0.mk h14; have H15 := Aside0.mk h15; have H16 := Aside0.mk h16; have HN := Aside0.mk hn'; have HD := Aside0.mk hD; have HL := Aside0.mk hl; have HM := Aside0.mk hm
  clear h h1 h2 h3 h4 h5 h6 h7 h8 h9 h10 h11 h12 h13 h14 h15 h16 hl hn' hf hD hm hr
  have hq2 : (q : Int) < 4096 := by have h1 := HM.out; have h2 := HN.out; have h3 := HD.out; rw [h2] at hq; rw [← h1, ← h3]; simp only [Nat.add_sub_cancel] at hq; omega
  have HQ := Aside0.mk hq2
  clear hq
  go_enter Try.func11, Try.ntmps11
  go_wp2_with ((with_reducible refine gate_dst (N := 3) rfl ?_); refine box_event ?hg (N := 3) ?hd (cs := #[.string x0, .int .i64 x1, .int .i64 x2, .int .i64 x3, .int .i32 x4, .int .i64 x5, .bool x6, .slice A m c]) (t := 25) ?hr ?_; (case hd => rfl); (case hg => rfl); (case hr => first | (go_simp; done) | (go_simp; rfl)); intro bx hgx w3 hbox hb; have HS3 := Aside0.mk (HS.out.below hb); have HB3 := Aside0.mk hb; have HX3 := Aside0.mk hbox; have HG3 := Aside0.mk (show bx = w.heap.size from hgx); have c0w3 : w3.cell? ⟨g, 0, none⟩ = some (.slice (some ⟨go, 0, none⟩) (n + 1) cc) := blk_cell (blk_below H1.out hb) 0; have crw3 : w3.cell? ⟨go, n, none⟩ = some (.slice Ak q ck) := pw_cell_below hb H7.out; have hxw3 : w3.cell? ⟨bx, 0, none⟩ = some (.string x0) := blk_cell hbox 0; have c0w3d : w3.drew.cell? ⟨g, 0, none⟩ = some (.slice (some ⟨go, 0, none⟩) (n + 1) cc) := c0w3; have crw3d : w3.drew.cell? ⟨go, n, none⟩ = some (.slice Ak q ck) := crw3; have hxw3d : w3.drew.cell? ⟨bx, 0, none⟩ = some (.string x0) := hxw3; have hxx3 : w3.cell? ⟨bx, 3, none⟩ = _ := blk_cell hbox 3; have hxx7 : w3.cell? ⟨bx, 7, none⟩ = _ := blk_cell hbox 7; have fx3 := blk_frozen hbox 3; clear hgx hbox hb)
  go_region_held3 (fun w' => w'.cell? ⟨g, 0, none⟩ = some (.slice (some ⟨go, 0, none⟩) (n + 1) cc) ∧ w'.cell? ⟨go, n, none⟩ = some (.slice Ak q ck) ∧ w'.cell? ⟨bx, 0, none⟩ = some (.string x0)) (first | with_reducible exact ⟨c0w3d, crw3d, hxw3d⟩ | with_reducible exact ⟨c0w4, crw4, hxw4⟩) (first | (go_at_call 25; rw [← HM.out]; ((with_reducible refine (scope_find.calls Ak ck d x0 (-1) _ (Kd.C_below (Kd.C_below (HM.out ▸ (Kd.R_reads' H9.out).2.2) HB3.out) (below_drew (Below.refl _ _))) (HM.out ▸ (Kd.R_reads' H9.out).2.1) HF.out).mono ?_)); rintro e w4 ⟨rfl, hb⟩; have hb4 := below_step (below_drew (Below.refl w3.heap.size w3)) hb; have HB4 := Aside0.mk (below_step HB3.out hb4); have HX4 := Aside0.mk (blk_below HX3.out hb4); have c0w4 : w4.cell? ⟨g, 0, none⟩ = some (.slice (some ⟨go, 0, none⟩) (n + 1) cc) := blk_cell (blk_below H1.out HB4.out) 0; have crw4 : w4.cell? ⟨go, n, none⟩ = some (.slice Ak q ck) := pw_cell_below HB4.out H7.out; have hxw4 : w4.cell? ⟨bx, 0, none⟩ = some (.string x0) := blk_cell HX4.out 0; have c0w4d : w4.drew.cell? ⟨g, 0, none⟩ = some (.slice (some ⟨go, 0, none⟩) (n + 1) cc) := c0w4; have crw4d : w4.drew.cell? ⟨go, n, none⟩ = some (.slice Ak q ck) := crw4; have hxw4d : w4.drew.cell? ⟨bx, 0, none⟩ = some (.string x0) := hxw4; have hx43 : w4.cell? ⟨bx, 3, none⟩ = some (.int .i64 x3) := blk_cell HX4.out 3; have fx43 := blk_frozen HX4.out 3; have hx47 : w4.cell? ⟨bx, 7, none⟩ = some (.slice A m c) := blk_cell HX4.out 7; have hx473 : (w4.setCell ⟨bx, 3, none⟩ (.int .i64 (n : Int))).cell? ⟨bx, 7, none⟩ = some (.slice A m c) := blk_cell (blk_put HX4.out 3 _ rfl) 7; clear hb hb4 c0w3 crw3 hxw3 c0w3d crw3d hxw3d; try rw [HM.out]))
  go_wp2_with (first
    | (go_at_call 26; go_loud (rw [← HM7.out]; ((with_reducible refine (slices_ClonePar.calls A c x7 x7 _ (Kd.C_below HC7.out (below_set HB4.out (Nat.le_of_eq HG3.out.symm))) (HM7.out ▸ HL7.out.1) HF7.out).mono ?_)); rintro e w5 ⟨v7, rfl, ho, hb⟩; obtain ⟨A7, n7, c7, rfl⟩ := R_slc ho; have HB5 := Aside0.mk (below_step (below_set HB4.out (Nat.le_of_eq HG3.out.symm)) hb); have HX5 := Aside0.mk (blk_below (blk_put HX4.out 3 (.int .i64 (n : Int)) rfl) hb); have HP5 := Aside0.mk ho; have HZ5 := Aside0.mk (show w.heap.size ≤ (w4.setCell ⟨bx, 3, none⟩ (.int .i64 (n : Int))).heap.size from (below_set HB4.out (Nat.le_of_eq HG3.out.symm)).size); have fx57 := blk_frozen HX5.out 7; have hx57 : w5.cell? ⟨bx, 7, none⟩ = some (.slice A x7.length c) := by rw [HM7.out]; exact blk_cell HX5.out 7; try clear hb; try clear ho)))
  obtain ⟨W6, hW6⟩ : ∃ W6, W6 = (w5.setCell ⟨bx, 7, none⟩ (.slice A7 n7 c7)).drew := ⟨_, rfl⟩
  have HBB := Aside0.mk (show base ≤ w.heap.size by have := H12.out; have := H13.out; omega)
  have HB6 := Aside0.mk (show Below w.heap.size w W6 by rw [hW6]; exact below_drew (below_set HB5.out (Nat.le_of_eq HG3.out.symm)))
  have HX6 := Aside0.mk (show W6.heap[bx]? = some (.cells #[.string x0, .int .i64 x1, .int .i64 x2, .int .i64 (n : Int), .int .i32 x4, .int .i64 x5, .bool x6, .slice A7 n7 c7] 25 (0, 0)) by rw [hW6]; exact blk_drew (blk_put HX5.out 7 _ rfl))
  have HP6 := Aside0.mk (show Kd.R k69 69 W6 base (fun k => w.heap.size ≤ k) (.slice A7 n7 c7) x7 by
    rw [hW6]
    exact Kd.R_mono (Kd.R_bound (Kd.R_lower (Kd.R_lower (Kd.R_mono (Kd.R_bound (Kd.R_drew (Kd.R_set HP5.out HX5.out (by decide) 7 (.slice A7 n7 c7)))) (ok' := fun k => w.heap.size ≤ k) (fun k hk => Nat.le_trans HZ5.out hk.2.1)) HZ5.out) HBB.out)) (fun k hk => hk.1))
  have c06 : (w5.setCell ⟨bx, 7, none⟩ (.slice A7 n7 c7)).cell? ⟨g, 0, none⟩ = some (.slice (some ⟨go, 0, none⟩) (n + 1) cc) := blk_cell (blk_below H1.out (below_set HB5.out (Nat.le_of_eq HG3.out.symm))) 0
  have cr5 : (w5.setCell ⟨bx, 7, none⟩ (.slice A7 n7 c7)).cell? ⟨go, n, none⟩ = some (.slice Ak q ck) := pw_cell_below (below_set HB5.out (Nat.le_of_eq HG3.out.symm)) H7.out
  have cr6 : W6.cell? ⟨go, n, none⟩ = some (.slice Ak q ck) := by rw [hW6]; exact cr5
  have cx0 : (w5.setCell ⟨bx, 7, none⟩ (.slice A7 n7 c7)).cell? ⟨bx, 0, none⟩ = some (.string x0) := blk_cell (blk_put HX5.out 7 _ rfl) 0
  have cx1 : (w5.setCell ⟨bx, 7, none⟩ (.slice A7 n7 c7)).cell? ⟨bx, 1, none⟩ = some (.int .i64 x1) := blk_cell (blk_put HX5.out 7 _ rfl) 1
  have cx2 : (w5.setCell ⟨bx, 7, none⟩ (.slice A7 n7 c7)).cell? ⟨bx, 2, none⟩ = some (.int .i64 x2) := blk_cell (blk_put HX5.out 7 _ rfl) 2
  have cx3 : (w5.setCell ⟨bx, 7, none⟩ (.slice A7 n7 c7)).cell? ⟨bx, 3, none⟩ = some (.int .i64 (n : Int)) := blk_cell (blk_put HX5.out 7 _ rfl) 3
  have cx4 : (w5.setCell ⟨bx, 7, none⟩ (.slice A7 n7 c7)).cell? ⟨bx, 4, none⟩ = some (.int .i32 x4) := blk_cell (blk_put HX5.out 7 _ rfl) 4
  have cx5 : (w5.setCell ⟨bx, 7, none⟩ (.slice A7 n7 c7)).cell? ⟨bx, 5, none⟩ = some (.int .i64 x5) := blk_cell (blk_put HX5.out 7 _ rfl) 5
  have cx6 : (w5.setCell ⟨bx, 7, none⟩ (.slice A7 n7 c7)).cell? ⟨bx, 6, none⟩ = some (.bool x6) := blk_cell (blk_put HX5.out 7 _ rfl) 6
  have cx7 : (w5.setCell ⟨bx, 7, none⟩ (.slice A7 n7 c7)).cell? ⟨bx, 7, none⟩ = some (.slice A7 n7 c7) := blk_cell (blk_put HX5.out 7 _ rfl) 7
  obtain ⟨gc, hgc⟩ := Kd.R_typed H3.out go rfl
  have HGO := Aside0.mk (blk_below hgc HB6.out)
  clear hgc
  rw [hW6] at cr6
  generalize hW5 : w5.setCell ⟨bx, 7, none⟩ (.slice A7 n7 c7) = W5 at hW6 c06 cr5 cr6 cx0 cx1 cx2 cx3 cx4 cx5 cx6 cx7 ⊢
  clear hW5
  replace c06 : W5.drew.cell? ⟨g, 0, none⟩ = some (.slice (some ⟨go, 0, none⟩) (n + 1) cc) := c06
  replace cx0 : W5.drew.cell? ⟨bx, 0, none⟩ = some (.string x0) := cx0
  replace cx1 : W5.drew.cell? ⟨bx, 1, none⟩ = some (.int .i64 x1) := cx1
  replace cx2 : W5.drew.cell? ⟨bx, 2, none⟩ = some (.int .i64 x2) := cx2
  replace cx3 : W5.drew.cell? ⟨bx, 3, none⟩ = some (.int .i64 (n : Int)) := cx3
  replace cx4 : W5.drew.cell? ⟨bx, 4, none⟩ = some (.int .i32 x4) := cx4
  replace cx5 : W5.drew.cell? ⟨bx, 5, none⟩ = some (.int .i64 x5) := cx5
  replace cx6 : W5.drew.cell? ⟨bx, 6, none⟩ = some (.bool x6) := cx6
  replace cx7 : W5.drew.cell? ⟨bx, 7, none⟩ = some (.slice A7 n7 c7) := cx7
  subst hW6
  have hSS : W5.drew.cell? ⟨g, 0, none⟩ = some (.slice (some ⟨go, 0, none⟩) (n + 1) cc) ∧ W5.drew.cell? ⟨go, n, none⟩ = some (.slice Ak q ck) ∧ W5.drew.cell? ⟨bx, 0, none⟩ = some (.string x0) ∧ W5.drew.cell? ⟨bx, 1, none⟩ = some (.int .i64 x1) ∧ W5.drew.cell? ⟨bx, 2, none⟩ = some (.int .i64 x2) ∧ W5.drew.cell? ⟨bx, 3, none⟩ = some (.int .i64 (n : Int)) ∧ W5.drew.cell? ⟨bx, 4, none⟩ = some (.int .i32 x4) ∧ W5.drew.cell? ⟨bx, 5, none⟩ = some (.int .i64 x5) ∧ W5.drew.cell? ⟨bx, 6, none⟩ = some (.bool x6) ∧ W5.drew.cell? ⟨bx, 7, none⟩ = some (.slice A7 n7 c7) := ⟨c06, cr6, cx0, cx1, cx2, cx3, cx4, cx5, cx6, cx7⟩
  refine C.wp_region_until (S := fun w' => w'.cell? ⟨g, 0, none⟩ = some (.slice (some ⟨go, 0, none⟩) (n + 1) cc) ∧ w'.cell? ⟨go, n, none⟩ = some (.slice Ak q ck) ∧ w'.cell? ⟨bx, 0, none⟩ = some (.string x0) ∧ w'.cell? ⟨bx, 1, none⟩ = some (.int .i64 x1) ∧ w'.cell? ⟨bx, 2, none⟩ = some (.int .i64 x2) ∧ w'.cell? ⟨bx, 3, none⟩ = some (.int .i64 (n : Int)) ∧ w'.cell? ⟨bx, 4, none⟩ = some (.int .i32 x4) ∧ w'.cell? ⟨bx, 5, none⟩ = some (.int .i64 x5) ∧ w'.cell? ⟨bx, 6, none⟩ = some (.bool x6) ∧ w'.cell? ⟨bx, 7, none⟩ = some (.slice A7 n7 c7)) 16 (by kernel_rfl) hSS (fun hHeld => ?_)
  refine C.uk_take (i := 0) (v := ?_) (by kernel_rfl) (by kernel_rfl) (by kernel_rfl) (by kernel_rfl) (fun oi hoi => ?_) rfl
  rotate_left
  simp only [List.getElem?_toArray, List.getElem?_cons_succ, List.getElem?_cons_zero] at hoi
  cases hoi
  refine ⟨fun _ _ _ h => h, Or.inl ⟨by rfl, ?_⟩, by assumption, ?_⟩
  · (intro w hSw; (try dsimp only at hSw); go_simp; all_goals with_reducible rfl)
  try simp only [Act.put, List.setIfInBounds_toArray, List.set_cons_zero, List.set_cons_succ]
  refine C.uk_take (i := 1) (v := ?_) (by kernel_rfl) (by kernel_rfl) (by kernel_rfl) (by kernel_rfl) (fun oi hoi => ?_) rfl
  rotate_left
  simp only [List.getElem?_toArray, List.getElem?_cons_succ, List.getElem?_cons_zero] at hoi
  cases hoi
  refine ⟨fun _ _ _ h => h, Or.inl ⟨by rfl, ?_⟩, by assumption, ?_⟩
  · (intro w hSw; (try dsimp only at hSw); go_simp; all_goals with_reducible rfl)
  try simp only [Act.put, List.setIfInBounds_toArray, List.set_cons_zero, List.set_cons_succ]
  refine C.uk_take (i := 2) (v := ?_) (by kernel_rfl) (by kernel_rfl) (by kernel_rfl) (by kernel_rfl) (fun oi hoi => ?_) rfl
  rotate_left
  simp only [List.getElem?_toArray, List.getElem?_cons_succ, List.getElem?_cons_zero] at hoi
  cases hoi
  refine ⟨fun _ _ _ h => h, Or.inl ⟨by rfl, ?_⟩, by assumption, ?_⟩
  · (intro w hSw; (try dsimp only at hSw); go_simp; all_goals with_reducible rfl)
  try simp only [Act.put, List.setIfInBounds_toArray, List.set_cons_zero, List.set_cons_succ]
  refine C.uk_take (i := 3) (v := ?_) (by kernel_rfl) (by kernel_rfl) (by kernel_rfl) (by kernel_rfl) (fun oi hoi => ?_) rfl
  rotate_left
  simp only [List.getElem?_toArray, List.getElem?_cons_succ, List.getElem?_cons_zero] at hoi
  cases hoi
  refine ⟨fun _ _ _ h => h, Or.inl ⟨by rfl, ?_⟩, by assumption, ?_⟩
  · (intro w hSw; (try dsimp only at hSw); go_simp; all_goals with_reducible rfl)
  try simp only [Act.put, List.setIfInBounds_toArray, List.set_cons_zero, List.set_cons_succ]
  refine C.uk_take (i := 4) (v := ?_) (by kernel_rfl) (by kernel_rfl) (by kernel_rfl) (by kernel_rfl) (fun oi hoi => ?_) rfl
  rotate_left
  simp only [List.getElem?_toArray, List.getElem?_cons_succ, List.getElem?_cons_zero] at hoi
  cases hoi
  refine ⟨fun _ _ _ h => h, Or.inl ⟨by rfl, ?_⟩, by assumption, ?_⟩
  · (intro w hSw; (try dsimp only at hSw); go_simp; all_goals with_reducible rfl)
  try simp only [Act.put, List.setIfInBounds_toArray, List.set_cons_zero, List.set_cons_succ]
  refine C.uk_take (i := 5) (v := ?_) (by kernel_rfl) (by kernel_rfl) (by kernel_rfl) (by kernel_rfl) (fun oi hoi => ?_) rfl
  rotate_left
  simp only [List.getElem?_toArray, List.getElem?_cons_succ, List.getElem?_cons_zero] at hoi
  cases hoi
  refine ⟨fun _ _ _ h => h, Or.inl ⟨by rfl, ?_⟩, by assumption, ?_⟩
  · (intro w hSw; (try dsimp only at hSw); go_simp; all_goals with_reducible rfl)
  try simp only [Act.put, List.setIfInBounds_toArray, List.set_cons_zero, List.set_cons_succ]
  refine C.uk_take (i := 6) (v := ?_) (by kernel_rfl) (by kernel_rfl) (by kernel_rfl) (by kernel_rfl) (fun oi hoi => ?_) rfl
  rotate_left
  simp only [List.getElem?_toArray, List.getElem?_cons_succ, List.getElem?_cons_zero] at hoi
  cases hoi
  refine ⟨fun _ _ _ h => h, Or.inl ⟨by rfl, ?_⟩, by assumption, ?_⟩
  · (intro w hSw; (try dsimp only at hSw); go_simp; all_goals with_reducible rfl)
  try simp only [Act.put, List.setIfInBounds_toArray, List.set_cons_zero, List.set_cons_succ]
  refine C.uk_take (i := 7) (v := ?_) (by kernel_rfl) (by kernel_rfl) (by kernel_rfl) (by kernel_rfl) (fun oi hoi => ?_) rfl
  rotate_left
  simp only [List.getElem?_toArray, List.getElem?_cons_succ, List.getElem?_cons_zero] at hoi
  cases hoi
  refine ⟨fun _ _ _ h => h, Or.inl ⟨by rfl, ?_⟩, by assumption, ?_⟩
  · (intro w hSw; (try dsimp only at hSw); go_simp; all_goals with_reducible rfl)
  try simp only [Act.put, List.setIfInBounds_toArray, List.set_cons_zero, List.set_cons_succ]
  refine C.uk_take (i := 8) (v := ?_) (by kernel_rfl) (by kernel_rfl) (by kernel_rfl) (by kernel_rfl) (fun oi hoi => ?_) rfl
  rotate_left
  simp only [List.getElem?_toArray, List.getElem?_cons_succ, List.getElem?_cons_zero] at hoi
  cases hoi
  refine ⟨fun _ _ _ h => h, Or.inl ⟨by rfl, ?_⟩, by assumption, ?_⟩
  · (intro w hSw; (try dsimp only at hSw); go_simp; all_goals with_reducible rfl)
  try simp only [Act.put, List.setIfInBounds_toArray, List.set_cons_zero, List.set_cons_succ]
  refine C.uk_take (i := 9) (v := ?_) (by kernel_rfl) (by kernel_rfl) (by kernel_rfl) (by kernel_rfl) (fun oi hoi => ?_) rfl
  rotate_left
  simp only [List.getElem?_toArray, List.getElem?_cons_succ, List.getElem?_cons_zero] at hoi
  cases hoi
  refine ⟨fun _ _ _ h => h, Or.inl ⟨by rfl, ?_⟩, by assumption, ?_⟩
  · (intro w hSw; (try dsimp only at hSw); go_simp; all_goals with_reducible rfl)
  try simp only [Act.put, List.setIfInBounds_toArray, List.set_cons_zero, List.set_cons_succ]
  refine C.uk_take (i := 10) (v := ?_) (by kernel_rfl) (by kernel_rfl) (by kernel_rfl) (by kernel_rfl) (fun oi hoi => ?_) rfl
  rotate_left
  simp only [List.getElem?_toArray, List.getElem?_cons_succ, List.getElem?_cons_zero] at hoi
  cases hoi
  refine ⟨fun _ _ _ h => h, Or.inl ⟨by rfl, ?_⟩, by assumption, ?_⟩
  · (intro w hSw; (try dsimp only at hSw); go_simp; all_goals with_reducible rfl)
  try simp only [Act.put, List.setIfInBounds_toArray, List.set_cons_zero, List.set_cons_succ]
  refine C.uk_take (i := 11) (v := ?_) (by kernel_rfl) (by kernel_rfl) (by kernel_rfl) (by kernel_rfl) (fun oi hoi => ?_) rfl
  rotate_left
  simp only [List.getElem?_toArray, List.getElem?_cons_succ, List.getElem?_cons_zero] at hoi
  cases hoi
  refine ⟨fun _ _ _ h => h, Or.inl ⟨by rfl, ?_⟩, by assumption, ?_⟩
  · (intro w hSw; (try dsimp only at hSw); go_simp; all_goals with_reducible rfl)
  try simp only [Act.put, List.setIfInBounds_toArray, List.set_cons_zero, List.set_cons_succ]
  refine C.uk_take (i := 12) (v := ?_) (by kernel_rfl) (by kernel_rfl) (by kernel_rfl) (by kernel_rfl) (fun oi hoi => ?_) rfl
  rotate_left
  simp only [List.getElem?_toArray, List.getElem?_cons_succ, List.getElem?_cons_zero] at hoi
  cases hoi
  refine ⟨fun _ _ _ h => h, Or.inl ⟨by rfl, ?_⟩, by assumption, ?_⟩
  · (intro w hSw; (try dsimp only at hSw); go_simp; all_goals with_reducible rfl)
  try simp only [Act.put, List.setIfInBounds_toArray, List.set_cons_zero, List.set_cons_succ]
  refine C.uk_one (i := 13) (by kernel_rfl) rfl (by decide) (fun K hK => ?_)
  rw [if_pos (by rfl)]
  go_simp
  try simp only [Act.put, List.setIfInBounds_toArray, List.set_cons_zero, List.set_cons_succ]
  refine hK.out _ _ ⟨pw_cell_below (below_alloc (Below.refl _ _) _) (hSS.1), pw_cell_below (below_alloc (Below.refl _ _) _) (hSS.2.1), pw_cell_below (below_alloc (Below.refl _ _) _) (hSS.2.2.1), pw_cell_below (below_alloc (Below.refl _ _) _) (hSS.2.2.2.1), pw_cell_below (below_alloc (Below.refl _ _) _) (hSS.2.2.2.2.1), pw_cell_below (below_alloc (Below.refl _ _) _) (hSS.2.2.2.2.2.1), pw_cell_below (below_alloc (Below.refl _ _) _) (hSS.2.2.2.2.2.2.1), pw_cell_below (below_alloc (Below.refl _ _) _) (hSS.2.2.2.2.2.2.2.1), pw_cell_below (below_alloc (Below.refl _ _) _) (hSS.2.2.2.2.2.2.2.2.1), pw_cell_below (below_alloc (Below.refl _ _) _) (hSS.2.2.2.2.2.2.2.2.2)⟩ ?_
  clear hK
  refine C.uk_one (i := 14) (by kernel_rfl) rfl (by decide) (fun K hK => ?_)
  refine Kd.R_append_step k25 (w0 := w) (W := W5.drew) base (by rfl) (.tmp 61) (.tmp 63) 66 25 (.agg #[(.string ⟨#[]⟩), (.int .i64 0), (.int .i64 0), (.int .i64 0), (.int .i32 0), (.int .i64 0), (.bool false), (.slice none 0 0)]) 88 rfl Try.underlying66 sc_info25 rfl (by decide) (by decide) (.slice Ak q ck) d (⟨x0, x1, x2, (n : Int), x4, x5, x6, x7⟩ : S25) [.string x0, .int .i64 x1, .int .i64 x2, .int .i64 (n : Int), .int .i32 x4, .int .i64 x5, .bool x6, .slice A7 n7 c7] (OkC col w.heap.size (4 + n) (4 + n)) (fun k => w.heap.size ≤ k) (by first | rfl | (simp [Act.eval, Act.put]; done)) (by first | rfl | (simp [Act.eval, Act.put]; done)) (k25_mkM _ _ _ (⟨x0, x1, x2, (n : Int), x4, x5, x6, x7⟩ : S25) HP6.out) (fun k hk => ⟨.inr ⟨rfl, hk⟩, fun e => by have := Kd.R_lt H9.out k e.symm; omega⟩) (fun k hk => .inr ⟨rfl, Nat.le_trans HB6.out.size hk⟩) (Kd.R_mono (Kd.R_below H9.out HB6.out) (fun k hk => .inl hk)) (HB6.out.mono HBB.out) (Nat.le_trans HBB.out HB6.out.size) (by have := HQ.out; have := HM.out; omega) ?_
  intro v1 w1 ho hb hg hat
  obtain ⟨A1, n1, c1, rfl⟩ := R_slc ho
  have hgo := blk_grown HGO.out hg (Kd.R_ne (Kd.R_below H9.out HB6.out) HGO.out (by decide))
  have HGO1 := Aside0.mk hgo
  have cr1 : w1.cell? ⟨go, n, none⟩ = some (.slice Ak q ck) := (blk_cell hgo n).trans ((blk_cell HGO.out n).symm.trans cr6)
  have fr1 := blk_frozen hgo n
  have hg1 := blk_grown (blk_below H1.out HB6.out) hg (Kd.R_ne (Kd.R_below H9.out HB6.out) (blk_below H1.out HB6.out) (by decide))
  have hx1 := blk_grown HX6.out hg (fun e => by have := Kd.R_lt H9.out bx e.symm; have := HG3.out; omega)
  have HO := Aside0.mk ho
  have HBW := Aside0.mk hb
  have HGR := Aside0.mk hg
  clear hgo ho hb hg hat
  have hS1 : w1.cell? ⟨g, 0, none⟩ = some (.slice (some ⟨go, 0, none⟩) (n + 1) cc) ∧ w1.cell? ⟨go, n, none⟩ = some (.slice Ak q ck) ∧ w1.cell? ⟨bx, 0, none⟩ = some (.string x0) ∧ w1.cell? ⟨bx, 1, none⟩ = some (.int .i64 x1) ∧ w1.cell? ⟨bx, 2, none⟩ = some (.int .i64 x2) ∧ w1.cell? ⟨bx, 3, none⟩ = some (.int .i64 (n : Int)) ∧ w1.cell? ⟨bx, 4, none⟩ = some (.int .i32 x4) ∧ w1.cell? ⟨bx, 5, none⟩ = some (.int .i64 x5) ∧ w1.cell? ⟨bx, 6, none⟩ = some (.bool x6) ∧ w1.cell? ⟨bx, 7, none⟩ = some (.slice A7 n7 c7) := ⟨blk_cell hg1 0, cr1, blk_cell hx1 0, blk_cell hx1 1, blk_cell hx1 2, blk_cell hx1 3, blk_cell hx1 4, blk_cell hx1 5, blk_cell hx1 6, blk_cell hx1 7⟩
  refine hK.out _ _ hS1 ?_
  clear hK
  try simp only [Act.put, List.setIfInBounds_toArray, List.set_cons_zero, List.set_cons_succ]
  refine C.uk_take (i := 15) (v := ?_) (by kernel_rfl) (by kernel_rfl) (by kernel_rfl) (by kernel_rfl) (fun oi hoi => ?_) rfl
  rotate_left
  simp only [List.getElem?_toArray, List.getElem?_cons_succ, List.getElem?_cons_zero] at hoi
  cases hoi
  refine ⟨fun _ _ _ h => h, Or.inl ⟨by rfl, ?_⟩, by assumption, ?_⟩
  · (intro w hSw; (try dsimp only at hSw); go_simp; all_goals with_reducible rfl)
  try simp only [Act.put, List.setIfInBounds_toArray, List.set_cons_zero, List.set_cons_succ]
  refine C.uk_last (by kernel_rfl) rfl (by kernel_rfl) (fun K hK => ?_)
  rw [if_pos (by rfl)]
  go_simp
  try simp only [Act.put, List.setIfInBounds_toArray, List.set_cons_zero, List.set_cons_succ]
  refine hK.out _ _ ?_
  clear hK
  go_wp2
  go_ret
  have hkept : Kept w (w1.setCell ⟨go, n, none⟩ (.slice A1 n1 c1)) (fun k => Cs [2, 4 + n] (col k)) :=
    Kept.setCell (Kept.of_grown HGR.out (Kept.of_below HB6.out _) (fun k hk => .inl (by have e : col k = 4 + n := H9.out.1 k hk; rw [e]; simp [Cs]))) (.inl (by show Cs [2, 4 + n] (col go); rw [H11.out]; simp [Cs])) _
  have hdl : D.length - 1 = n := by have := HN.out; omega
  have hdn : (D.length : Int) - 1 = (n : Int) := by have := HN.out; omega
  have hgw : go < w.heap.size := H13.out
  have e1 : sc_put D ⟨x0, x1, x2, (D.length : Int) - 1, x4, x5, x6, x7⟩ = D.set n (d ++ [(⟨x0, x1, x2, (n : Int), x4, x5, x6, x7⟩ : S25)]) := by unfold sc_put; rw [hdl, hdn, HD.out]
  rw [e1]
  have hout := Kd.R_put (Kd.R_grown (Kd.R_below H3.out HB6.out) HGR.out (fun k hk e => by have e2 : col k = 4 + n := H9.out.1 k e.symm; have e3 : col k = 2 := hk; omega) |> fun h => (show Kd.R kSV 66 w1 base (fun k => col k = 2) (.slice (some ⟨go, 0, none⟩) vs.length cc) vs by rw [H4.out, HN.out]; exact h)) (n : Int) (⟨A1, n1, c1⟩ : SV)
  rw [Int.toNat_natCast] at hout
  have hg1 := blk_grown (blk_below H1.out HB6.out) HGR.out (Kd.R_ne (Kd.R_below H9.out HB6.out) (blk_below H1.out HB6.out) (by decide))
  have hgne : g ≠ go := fun e => by have h1 := H2.out; have h2 := H11.out; rw [e] at h1; omega
  refine ⟨rfl, recol col w.heap.size (w1.setCell ⟨go, n, none⟩ (.slice A1 n1 c1)).heap.size (4 + n), ⟨.slice (some ⟨go, 0, none⟩) (n + 1) cc, vm, vs.set n ⟨A1, n1, c1⟩, ?_, ?_, ?_, ?_, ?_, ?_, ?_, ?_⟩, recol_ScK (S := Cs [2, 4 + n]) (HBW.out.setCell (p := ⟨go, n, none⟩) H12.out _) hkept (by simp [Cs]; omega)⟩
  · exact (Below.heap_setCell w1 ⟨go, n, none⟩ _ g hgne).trans hg1
  · rw [recol_old HS.out.base.2]; exact H2.out
  · have h := hout.1
    rw [H4.out, HN.out] at h
    exact recol_R H16.out (by decide) (Kd.R_mono h (fun k hk => .inl hk))
  · rw [List.length_set, List.length_set]; exact H4.out
  · intro i x e hx he
    rcases set_get hx with ⟨rfl, rfl⟩ | ⟨hi, hx'⟩
    · rcases set_get he with ⟨_, rfl⟩ | ⟨hi, _⟩
      · exact recol_R H16.out (by omega) (Kd.R_set HO.out HGO1.out (by decide) i _)
      · exact absurd rfl hi
    · rcases set_get he with ⟨hi2, _⟩ | ⟨_, he'⟩
      · exact absurd hi2 hi
      · exact recol_R0 H16.out (by omega) (H14.out i x e hx' he') hkept (by simp [Cs]; omega)
  · exact recol_R0 H16.out (by decide) H15.out hkept (by simp [Cs]; omega)
  · exact recol_hcol H16.out HBB.out hkept.1
  · have h8 := HL.out
    refine ⟨by rw [List.length_set]; exact h8.1, by rw [List.length_set]; exact h8.2.1, h8.2.2.1, fun e he => ?_⟩
    obtain ⟨i, hi⟩ := List.mem_iff_getElem?.1 he
    rcases set_get hi with ⟨_, rfl⟩ | ⟨_, hi'⟩
    · have := HM.out; have := HQ.out; simp; omega
    · exact h8.2.2.2 e (List.mem_of_getElem? hi')

end Go.Proofs.Ytkgjpelddncfdaa.P

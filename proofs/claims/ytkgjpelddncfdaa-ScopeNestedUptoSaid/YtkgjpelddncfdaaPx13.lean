-- Written by a program of this session (wip/tools/hp.py) out of the translation.
import Derived.Test.YtkgjpelddncfdaaPx0
import Derived.Test.YtkgjpelddncfdaaPx3
import Derived.Test.YtkgjpelddncfdaaPx4
import Derived.Test.YtkgjpelddncfdaaPx6
namespace Go.Proofs.Ytkgjpelddncfdaa.P
open Go.RowKit Go.Proofs.YtkgjpelddncfdaaW.PrintWords Go.Proofs.YtkgjpelddncfdaaW.PrintLast Go.Proofs.YtkgjpelddncfdaaW.PrintMore
attribute [local go_sem] max2_int min2_int max_two min_two max_three min_three max_four min_four   -- for this text's walks alone
set_option linter.unusedVariables false
set_option linter.unusedSimpArgs false

/-! ### scope_Scopes_Names: function 23 -/
def sc_nms (l : List S25) : List ByteArray := l.map (·.f0)
theorem sc_nms_len (l : List S25) : (sc_nms l).length = l.length := by unfold sc_nms; rw [List.length_map]
def sc_names (D : List (List S25)) : List ByteArray := sc_nms (D.getD (D.length - 1) [])
set_option maxRecDepth 100000 in
set_option maxHeartbeats 1000000 in
theorem sc_Names_calls {base : Nat} {w : World} {g : Nat} {col : Nat → Nat} {D M : List (List S25)} (h : IsS base w g col D M) :
    Calls Try.prog 23 #[.pointer (some ⟨g, 0, none⟩)] w fun e w' => ∃ v : Value, e = .returned v ∧ Kd.R Kd.string 9 w' w.heap.size (fun _ => True) v (sc_names D) ∧ Below w.heap.size w w' := by
  have hl := h.len
  obtain ⟨n, hn⟩ : ∃ n : Nat, D.length = n + 1 := ⟨D.length - 1, by omega⟩
  obtain ⟨go, cc, cr, Ar, vm, vs, h1, -, -, -, -, -, h7, -, h9, h10, -⟩ := h.row n (by omega)
  unfold sc_names
  rw [hn] at h1 ⊢
  rw [Nat.add_sub_cancel]
  have hC := (Kd.R_reads' h9).2.2
  generalize D.getD n [] = d at *
  generalize hq : d.length = q at *
  have hn2 : n ≤ 64 := by omega
  have c0 : w.cell? ⟨g, 0, none⟩ = some (.slice (some ⟨go, 0, none⟩) (n + 1) cc) := blk_cell h1 0
  have p1 : (0 : Int) ≤ (n : Int) := by omega
  have p2 : (n : Int) < (n : Int) + 1 := by omega
  have hw1 : IntKind.i64.wrap (((n + 1 : Nat) : Int) - 1) = (n : Int) := by rw [i64_w]; unfold wrap64; omega
  have hw0 : IntKind.i64.wrap (n : Int) = (n : Int) := by rw [i64_w]; unfold wrap64; omega
  have HC := Aside0.mk hC; have HQ := Aside0.mk hq; have HL := Aside0.mk h10
  clear h1 h9 h10 hC hl hn hq h
  go_enter Try.func23, Try.ntmps23
  go_wp2
  go_quiet (fail)
  go_wp2
  obtain ⟨W0, hW0⟩ : ∃ W0, w.drewN nq = W0 := ⟨_, rfl⟩
  have HB0 := Aside0.mk (show Below w.heap.size w W0 by rw [← hW0]; exact pw_below_drewN (Below.refl _ _) _)
  rw [hW0]
  clear hW0 c0 h7 hw1 hw0
  go_loopg [3, 19] (q + 1) (fun kx v3 v19 wr => ∃ (i : Nat) (A3 : Option Addr) (n3 c3 : Nat), v3 = .slice A3 n3 c3 ∧ v19 = .int .i64 i ∧ Aside0 (i + kx = q + 1 ∧ i ≤ q) ∧ Aside0 (Below w.heap.size w wr) ∧ Aside0 (Kd.R Kd.string 9 wr w.heap.size (fun _ => True) (.slice A3 n3 c3) (sc_nms (d.take i))))
  case atStart => exact ⟨0, none, 0, 0, rfl, rfl, ⟨⟨by omega, by omega⟩⟩, HB0, ⟨Kd.R_nil _ _ _ _ _⟩⟩
  case round =>
    obtain ⟨i, A3, n3, c3, rfl, rfl, HI, HB, HO⟩ := hrel
    by_cases hi : i < q
    · have hL := HL.out
      obtain ⟨ae, A7, c7, e, hx0, hx1, hx2, hx3, hx4, hx5, hx6, hx7, hle, hC7⟩ := at_T25 HC.out (i : Int) (by omega) (by omega)
      cases e
      obtain ⟨x, hx⟩ : ∃ x, rd_T25 d (i : Int) = x := ⟨_, rfl⟩
      have htk : d.take (i + 1) = d.take i ++ [x] := by rw [List.take_succ_eq_append_getElem (by rw [HQ.out]; exact hi), ← hx]; unfold rd_T25; rw [Int.toNat_natCast, List.getD_eq_getElem?_getD, List.getElem?_eq_getElem (by rw [HQ.out]; exact hi)]; rfl
      rw [hx, Int.toNat_natCast] at hx0 hx1 hx2 hx3 hx4 hx5 hx6 hx7
      rw [hx] at hle hC7
      try rw [hx] at hpar
      clear hx
      obtain ⟨x0, x1, x2, x3, x4, x5, x6, x7⟩ := x
      try dsimp only at hpar
      dsimp only at hx0 hx1 hx2 hx3 hx4 hx5 hx6 hx7 hle hC7
      generalize hm7 : x7.length = q7 at hx0 hx1 hx2 hx3 hx4 hx5 hx6 hx7 hle hC7
      have HX8 := Aside0.mk (And.intro hx0 (And.intro hx1 (And.intro hx2 (And.intro hx3 (And.intro hx4 (And.intro hx5 (And.intro hx6 hx7)))))))
      have HC7 := Aside0.mk (And.intro hle hC7)
      have HM7 := Aside0.mk hm7
      have HTK := Aside0.mk htk
      clear hx0 hx1 hx2 hx3 hx4 hx5 hx6 hx7 hle hC7 hm7 htk
      have i1 : (0 : Int) ≤ (i : Int) := by omega
      have i2 : (i : Int) < (q : Int) := by omega
      have i3 : (i : Int) ≤ 4096 := by omega
      have HH := Aside0.mk hi
      clear hi hL
      have z0 := pw_cell_below HB.out HX8.out.1
      have z1 := pw_cell_below HB.out HX8.out.2.1
      have z2 := pw_cell_below HB.out HX8.out.2.2.1
      have z3 := pw_cell_below HB.out HX8.out.2.2.2.1
      have z4 := pw_cell_below HB.out HX8.out.2.2.2.2.1
      have z5 := pw_cell_below HB.out HX8.out.2.2.2.2.2.1
      have z6 := pw_cell_below HB.out HX8.out.2.2.2.2.2.2.1
      have z7 := pw_cell_below HB.out HX8.out.2.2.2.2.2.2.2
      go_wp2_with (first
        | ((with_reducible refine gate_dst (N := 5) rfl ?_); refine box_event ?hg (N := 5) ?hd (cs := #[.string ⟨#[]⟩, .int .i64 0, .int .i64 0, .int .i64 0, .int .i32 0, .int .i64 0, .bool false, .slice none 0 0]) (t := 25) ?hr ?_; (case hd => rfl); (case hg => rfl); (case hr => first | (go_simp; done) | (go_simp; rfl)); intro gb hgx w3 hbox hb; have HB3 := Aside0.mk hb; have HX3 := Aside0.mk hbox; have HG3 := Aside0.mk (show wr.heap.size ≤ gb from Nat.le_of_eq hgx.symm); have f0 := blk_frozen hbox 0; have b0 : w3.cell? ⟨gb, 0, none⟩ = some _ := blk_cell hbox 0; have f1 := blk_frozen hbox 1; have b1 : w3.cell? ⟨gb, 1, none⟩ = some _ := blk_cell hbox 1; have f2 := blk_frozen hbox 2; have b2 : w3.cell? ⟨gb, 2, none⟩ = some _ := blk_cell hbox 2; have f3 := blk_frozen hbox 3; have b3 : w3.cell? ⟨gb, 3, none⟩ = some _ := blk_cell hbox 3; have f4 := blk_frozen hbox 4; have b4 : w3.cell? ⟨gb, 4, none⟩ = some _ := blk_cell hbox 4; have f5 := blk_frozen hbox 5; have b5 : w3.cell? ⟨gb, 5, none⟩ = some _ := blk_cell hbox 5; have f6 := blk_frozen hbox 6; have b6 : w3.cell? ⟨gb, 6, none⟩ = some _ := blk_cell hbox 6; have f7 := blk_frozen hbox 7; have b7 : w3.cell? ⟨gb, 7, none⟩ = some _ := blk_cell hbox 7; clear hgx hbox hb)
        | ((with_reducible refine gate_builtin (b := .append) (xs := #[.tmp 23, .tmp 26]) rfl ?_); at_builtin; (refine Kd.R_append Kd.string (w0 := w) (W := ((((((((w3.setCell ⟨gb, 0, none⟩ (.string x0)).setCell ⟨gb, 1, none⟩ (.int .i64 x1)).setCell ⟨gb, 2, none⟩ (.int .i64 x2)).setCell ⟨gb, 3, none⟩ (.int .i64 x3)).setCell ⟨gb, 4, none⟩ (.int .i32 x4)).setCell ⟨gb, 5, none⟩ (.int .i64 x5)).setCell ⟨gb, 6, none⟩ (.bool x6)).setCell ⟨gb, 7, none⟩ (.slice A7 q7 c7))) w.heap.size rfl (.tmp 23) (.tmp 26) 59 9 (.string ⟨#[]⟩) 16 rfl Try.underlying59 info9 rfl (by decide) (by decide) (.slice A3 n3 c3) (sc_nms (d.take i)) x0 [.string x0] (fun _ => True) (fun _ => False) rfl (by first | (with_reducible rfl) | (go_simp; done) | (go_simp; rfl)) rfl (fun _ hk => hk.elim) (fun _ _ => trivial) ?aO ?aB ?aS ?aL ?_; (case aO => exact Kd.R_below HO.out (sc_put8b HB3.out HG3.out _ _ _ _ _ _ _ _)); (case aB => exact below_step HB.out (sc_put8b HB3.out HG3.out _ _ _ _ _ _ _ _)); (case aS => exact (below_step HB.out (sc_put8b HB3.out HG3.out _ _ _ _ _ _ _ _)).size); (case aL => rw [sc_nms_len, List.length_take]; have := HQ.out; have := HL.out; omega); intro v1 w1 ho hb hg hat; obtain ⟨A1, n1, c1, rfl⟩ := R_slc ho; have HO1 := Aside0.mk ho; have HB1 := Aside0.mk hb; clear ho hb hg hat)))
      go_roundg (q - i)
      case measure => have := HI.out; have := HH.out; omega
      case rel => exact ⟨i + 1, A1, n1, c1, rfl, by first | rfl | (simp; done), ⟨by have := HI.out; have := HH.out; omega⟩, HB1, ⟨by rw [HTK.out]; unfold sc_nms; rw [List.map_append]; exact HO1.out⟩⟩
    · have i2 : decide ((i : Int) < (q : Int)) = false := decide_eq_false (by omega)
      have hiq : i = q := by have := HI.out; omega
      subst hiq
      go_wp2
      go_ret
      exact ⟨_, rfl, by have h := HO.out; rw [List.take_of_length_le (Nat.le_of_eq HQ.out)] at h; exact h, HB.out⟩
def sc_exp (x : S25) : S71 := ⟨x.f0, x.f1, x.f2, x.f4, x.f7⟩
def sc_exps (l : List S25) : List S71 := (l.filter (·.f6)).map sc_exp
theorem sc_exps_len (l : List S25) : (sc_exps l).length ≤ l.length := by unfold sc_exps; rw [List.length_map]; exact List.length_filter_le _ _
theorem sc_exps_yes (l : List S25) (x : S25) (h : x.f6 = true) : sc_exps (l ++ [x]) = sc_exps l ++ [sc_exp x] := by unfold sc_exps; rw [List.filter_append, List.map_append]; simp [h]
theorem sc_exps_no (l : List S25) (x : S25) (h : x.f6 = false) : sc_exps (l ++ [x]) = sc_exps l := by unfold sc_exps; rw [List.filter_append, List.map_append]; simp [h]
def sc_exports (D : List (List S25)) : List S71 := sc_exps (D.getD 0 [])
set_option maxRecDepth 100000 in
set_option maxHeartbeats 4000000 in
theorem sc_Exports_calls {base : Nat} {w : World} {g : Nat} {col : Nat → Nat} {D M : List (List S25)} (h : IsS base w g col D M) (hP : ∀ x ∈ D.getD 0 [], x.f7.length < 8796093022208) :
    Calls Try.prog 14 #[.pointer (some ⟨g, 0, none⟩)] w fun e w' => ∃ v : Value, e = .returned v ∧ Kd.R k71 71 w' w.heap.size (fun _ => True) v (sc_exports D) ∧ Below w.heap.size w w' := by
  have hl := h.len
  obtain ⟨n, hn⟩ : ∃ n : Nat, D.length = n + 1 := ⟨D.length - 1, by omega⟩
  obtain ⟨go, cc, cr, Ar, vm, vs, h1, -, -, -, -, -, h7, -, h9, h10, -⟩ := h.row 0 (by omega)
  unfold sc_exports
  rw [hn] at h1
  have hC := (Kd.R_reads' h9).2.2
  generalize D.getD 0 [] = d at *
  generalize hq : d.length = q at *
  have hn2 : n ≤ 64 := by omega
  have c0 : w.cell? ⟨g, 0, none⟩ = some (.slice (some ⟨go, 0, none⟩) (n + 1) cc) := blk_cell h1 0
  have p2 : (0 : Int) < (n : Int) + 1 := by omega
  have p3 : 0 < n + 1 := by omega
  have HC := Aside0.mk hC; have HQ := Aside0.mk hq; have HL := Aside0.mk h10; have HPP := Aside0.mk hP
  clear h1 h9 h10 hC hl hn hq h hP
  go_enter Try.func14, Try.ntmps14
  go_wp2
  clear c0 h7 p2 p3
  go_loopg [3, 13] (q + 1) (fun kx v3 v13 wr => ∃ (i : Nat) (A3 : Option Addr) (n3 c3 : Nat), v3 = .slice A3 n3 c3 ∧ v13 = .int .i64 i ∧ Aside0 (i + kx = q + 1 ∧ i ≤ q) ∧ Aside0 (Below w.heap.size w wr) ∧ Aside0 (Kd.R k71 71 wr w.heap.size (fun _ => True) (.slice A3 n3 c3) (sc_exps (d.take i))))
  case atStart => exact ⟨0, none, 0, 0, rfl, rfl, ⟨⟨by omega, by omega⟩⟩, ⟨Below.refl _ _⟩, ⟨Kd.R_nil _ _ _ _ _⟩⟩
  case round =>
    obtain ⟨i, A3, n3, c3, rfl, rfl, HI, HB, HO⟩ := hrel
    by_cases hi : i < q
    · have hL := HL.out
      have hpar := HPP.out (rd_T25 d (i : Int)) (by unfold rd_T25; rw [Int.toNat_natCast, List.getD_eq_getElem?_getD, List.getElem?_eq_getElem (by rw [HQ.out]; exact hi)]; exact List.getElem_mem _)
      obtain ⟨ae, A7, c7, e, hx0, hx1, hx2, hx3, hx4, hx5, hx6, hx7, hle, hC7⟩ := at_T25 HC.out (i : Int) (by omega) (by omega)
      cases e
      obtain ⟨x, hx⟩ : ∃ x, rd_T25 d (i : Int) = x := ⟨_, rfl⟩
      have htk : d.take (i + 1) = d.take i ++ [x] := by rw [List.take_succ_eq_append_getElem (by rw [HQ.out]; exact hi), ← hx]; unfold rd_T25; rw [Int.toNat_natCast, List.getD_eq_getElem?_getD, List.getElem?_eq_getElem (by rw [HQ.out]; exact hi)]; rfl
      rw [hx, Int.toNat_natCast] at hx0 hx1 hx2 hx3 hx4 hx5 hx6 hx7
      rw [hx] at hle hC7
      try rw [hx] at hpar
      clear hx
      obtain ⟨x0, x1, x2, x3, x4, x5, x6, x7⟩ := x
      try dsimp only at hpar
      dsimp only at hx0 hx1 hx2 hx3 hx4 hx5 hx6 hx7 hle hC7
      generalize hm7 : x7.length = q7 at hx0 hx1 hx2 hx3 hx4 hx5 hx6 hx7 hle hC7
      have HX8 := Aside0.mk (And.intro hx0 (And.intro hx1 (And.intro hx2 (And.intro hx3 (And.intro hx4 (And.intro hx5 (And.intro hx6 hx7)))))))
      have HC7 := Aside0.mk (And.intro hle hC7)
      have HM7 := Aside0.mk hm7
      have HTK := Aside0.mk htk
      clear hx0 hx1 hx2 hx3 hx4 hx5 hx6 hx7 hle hC7 hm7 htk
      have HF7 := Aside0.mk (show slices_ClonePar.f x7 = some x7 by unfold slices_ClonePar.f; rw [if_pos hpar])
      have i1 : (0 : Int) ≤ (i : Int) := by omega
      have i2 : (i : Int) < (q : Int) := by omega
      have i3 : (i : Int) ≤ 4096 := by omega
      have HH := Aside0.mk hi
      clear hi hL hpar
      have z0 := pw_cell_below HB.out HX8.out.1
      have z1 := pw_cell_below HB.out HX8.out.2.1
      have z2 := pw_cell_below HB.out HX8.out.2.2.1
      have z3 := pw_cell_below HB.out HX8.out.2.2.2.1
      have z4 := pw_cell_below HB.out HX8.out.2.2.2.2.1
      have z5 := pw_cell_below HB.out HX8.out.2.2.2.2.2.1
      have z6 := pw_cell_below HB.out HX8.out.2.2.2.2.2.2.1
      have z7 := pw_cell_below HB.out HX8.out.2.2.2.2.2.2.2
      cases x6 with
      | true =>
        go_wp2_with ((with_reducible refine gate_dst (N := 5) rfl ?_); refine box_event ?hg (N := 5) ?hd (cs := #[.string ⟨#[]⟩, .int .i64 0, .int .i64 0, .int .i64 0, .int .i32 0, .int .i64 0, .bool false, .slice none 0 0]) (t := 25) ?hr ?_; (case hd => rfl); (case hg => rfl); (case hr => first | (go_simp; done) | (go_simp; rfl)); intro gb hgx w3 hbox hb; have HB3 := Aside0.mk hb; have HX3 := Aside0.mk hbox; have HG3 := Aside0.mk (show wr.heap.size ≤ gb from Nat.le_of_eq hgx.symm); have f0 := blk_frozen hbox 0; have b0 : w3.cell? ⟨gb, 0, none⟩ = some _ := blk_cell hbox 0; have f1 := blk_frozen hbox 1; have b1 : w3.cell? ⟨gb, 1, none⟩ = some _ := blk_cell hbox 1; have f2 := blk_frozen hbox 2; have b2 : w3.cell? ⟨gb, 2, none⟩ = some _ := blk_cell hbox 2; have f3 := blk_frozen hbox 3; have b3 : w3.cell? ⟨gb, 3, none⟩ = some _ := blk_cell hbox 3; have f4 := blk_frozen hbox 4; have b4 : w3.cell? ⟨gb, 4, none⟩ = some _ := blk_cell hbox 4; have f5 := blk_frozen hbox 5; have b5 : w3.cell? ⟨gb, 5, none⟩ = some _ := blk_cell hbox 5; have f6 := blk_frozen hbox 6; have b6 : w3.cell? ⟨gb, 6, none⟩ = some _ := blk_cell hbox 6; have f7 := blk_frozen hbox 7; have b7 : w3.cell? ⟨gb, 7, none⟩ = some _ := blk_cell hbox 7; clear hgx hbox hb)
        obtain ⟨W5, hW5⟩ : ∃ W5, ((((((((w3.setCell ⟨gb, 0, none⟩ (.string x0)).setCell ⟨gb, 1, none⟩ (.int .i64 x1)).setCell ⟨gb, 2, none⟩ (.int .i64 x2)).setCell ⟨gb, 3, none⟩ (.int .i64 x3)).setCell ⟨gb, 4, none⟩ (.int .i32 x4)).setCell ⟨gb, 5, none⟩ (.int .i64 x5)).setCell ⟨gb, 6, none⟩ (.bool true)).setCell ⟨gb, 7, none⟩ (.slice A7 q7 c7)) = W5 := ⟨_, rfl⟩
        have HX5 := Aside0.mk (show W5.heap[gb]? = some (.cells #[.string x0, .int .i64 x1, .int .i64 x2, .int .i64 x3, .int .i32 x4, .int .i64 x5, .bool true, .slice A7 q7 c7] 25 (0, 0)) by rw [← hW5]; exact sc_put8 HX3.out _ _ _ _ _ _ _ _)
        have hb5 : Below wr.heap.size wr W5 := by rw [← hW5]; exact sc_put8b HB3.out HG3.out _ _ _ _ _ _ _ _
        have HB5 := Aside0.mk (below_step HB.out hb5)
        have HO5 := Aside0.mk (Kd.R_below HO.out hb5)
        rw [hW5]
        clear hW5 hb5 HX3 HB3 f0 b0 z0 f1 b1 z1 f2 b2 z2 f3 b3 z3 f4 b4 z4 f5 b5 z5 f6 b6 z6 f7 b7 z7
        refine wp_region_held_drew (S := fun w' => w'.cell? ⟨gb, 0, none⟩ = some (.string x0) ∧ w'.cell? ⟨gb, 1, none⟩ = some (.int .i64 x1) ∧ w'.cell? ⟨gb, 2, none⟩ = some (.int .i64 x2) ∧ w'.cell? ⟨gb, 4, none⟩ = some (.int .i32 x4) ∧ w'.cell? ⟨gb, 7, none⟩ = some (.slice A7 q7 c7)) (by kernel_rfl) ⟨blk_cell (blk_drew HX5.out) 0, blk_cell (blk_drew HX5.out) 1, blk_cell (blk_drew HX5.out) 2, blk_cell (blk_drew HX5.out) 4, blk_cell (blk_drew HX5.out) 7⟩ (fun hHeld => ?_)
        refine C.tk_take (i := 0) (v := ?_) (by kernel_rfl) (by kernel_rfl) (by kernel_rfl) (fun oi hoi => ?_) rfl
        rotate_left
        simp only [List.getElem?_toArray, List.getElem?_cons_succ, List.getElem?_cons_zero] at hoi
        cases hoi
        refine ⟨fun _ _ _ h => h, Or.inl ⟨by rfl, ?_⟩, by assumption, ?_⟩
        · (intro w hSw; (try dsimp only at hSw); go_simp; all_goals with_reducible rfl)
        try simp only [Act.put, List.setIfInBounds_toArray, List.set_cons_zero, List.set_cons_succ]
        refine C.tk_take (i := 1) (v := ?_) (by kernel_rfl) (by kernel_rfl) (by kernel_rfl) (fun oi hoi => ?_) rfl
        rotate_left
        simp only [List.getElem?_toArray, List.getElem?_cons_succ, List.getElem?_cons_zero] at hoi
        cases hoi
        refine ⟨fun _ _ _ h => h, Or.inl ⟨by rfl, ?_⟩, by assumption, ?_⟩
        · (intro w hSw; (try dsimp only at hSw); go_simp; all_goals with_reducible rfl)
        try simp only [Act.put, List.setIfInBounds_toArray, List.set_cons_zero, List.set_cons_succ]
        refine C.tk_take (i := 2) (v := ?_) (by kernel_rfl) (by kernel_rfl) (by kernel_rfl) (fun oi hoi => ?_) rfl
        rotate_left
        simp only [List.getElem?_toArray, List.getElem?_cons_succ, List.getElem?_cons_zero] at hoi
        cases hoi
        refine ⟨fun _ _ _ h => h, Or.inl ⟨by rfl, ?_⟩, by assumption, ?_⟩
        · (intro w hSw; (try dsimp only at hSw); go_simp; all_goals with_reducible rfl)
        try simp only [Act.put, List.setIfInBounds_toArray, List.set_cons_zero, List.set_cons_succ]
        refine C.tk_take (i := 3) (v := ?_) (by kernel_rfl) (by kernel_rfl) (by kernel_rfl) (fun oi hoi => ?_) rfl
        rotate_left
        simp only [List.getElem?_toArray, List.getElem?_cons_succ, List.getElem?_cons_zero] at hoi
        cases hoi
        refine ⟨fun _ _ _ h => h, Or.inl ⟨by rfl, ?_⟩, by assumption, ?_⟩
        · (intro w hSw; (try dsimp only at hSw); go_simp; all_goals with_reducible rfl)
        try simp only [Act.put, List.setIfInBounds_toArray, List.set_cons_zero, List.set_cons_succ]
        refine C.tk_take (i := 4) (v := ?_) (by kernel_rfl) (by kernel_rfl) (by kernel_rfl) (fun oi hoi => ?_) rfl
        rotate_left
        simp only [List.getElem?_toArray, List.getElem?_cons_succ, List.getElem?_cons_zero] at hoi
        cases hoi
        refine ⟨fun _ _ _ h => h, Or.inl ⟨by rfl, ?_⟩, by assumption, ?_⟩
        · (intro w hSw; (try dsimp only at hSw); go_simp; all_goals with_reducible rfl)
        try simp only [Act.put, List.setIfInBounds_toArray, List.set_cons_zero, List.set_cons_succ]
        refine C.tk_take (i := 5) (v := ?_) (by kernel_rfl) (by kernel_rfl) (by kernel_rfl) (fun oi hoi => ?_) rfl
        rotate_left
        simp only [List.getElem?_toArray, List.getElem?_cons_succ, List.getElem?_cons_zero] at hoi
        cases hoi
        refine ⟨fun _ _ _ h => h, Or.inl ⟨by rfl, ?_⟩, by assumption, ?_⟩
        · (intro w hSw; (try dsimp only at hSw); go_simp; all_goals with_reducible rfl)
        try simp only [Act.put, List.setIfInBounds_toArray, List.set_cons_zero, List.set_cons_succ]
        refine C.tk_take (i := 6) (v := ?_) (by kernel_rfl) (by kernel_rfl) (by kernel_rfl) (fun oi hoi => ?_) rfl
        rotate_left
        simp only [List.getElem?_toArray, List.getElem?_cons_succ, List.getElem?_cons_zero] at hoi
        cases hoi
        refine ⟨fun _ _ _ h => h, Or.inl ⟨by rfl, ?_⟩, by assumption, ?_⟩
        · (intro w hSw; (try dsimp only at hSw); go_simp; all_goals with_reducible rfl)
        try simp only [Act.put, List.setIfInBounds_toArray, List.set_cons_zero, List.set_cons_succ]
        refine C.tk_take (i := 7) (v := ?_) (by kernel_rfl) (by kernel_rfl) (by kernel_rfl) (fun oi hoi => ?_) rfl
        rotate_left
        simp only [List.getElem?_toArray, List.getElem?_cons_succ, List.getElem?_cons_zero] at hoi
        cases hoi
        refine ⟨fun _ _ _ h => h, Or.inl ⟨by rfl, ?_⟩, by assumption, ?_⟩
        · (intro w hSw; (try dsimp only at hSw); go_simp; all_goals with_reducible rfl)
        try simp only [Act.put, List.setIfInBounds_toArray, List.set_cons_zero, List.set_cons_succ]
        refine C.tk_take (i := 8) (v := ?_) (by kernel_rfl) (by kernel_rfl) (by kernel_rfl) (fun oi hoi => ?_) rfl
        rotate_left
        simp only [List.getElem?_toArray, List.getElem?_cons_succ, List.getElem?_cons_zero] at hoi
        cases hoi
        refine ⟨fun _ _ _ h => h, Or.inl ⟨by rfl, ?_⟩, by assumption, ?_⟩
        · (intro w hSw; (try dsimp only at hSw); go_simp; all_goals with_reducible rfl)
        try simp only [Act.put, List.setIfInBounds_toArray, List.set_cons_zero, List.set_cons_succ]
        refine C.tk_take (i := 9) (v := ?_) (by kernel_rfl) (by kernel_rfl) (by kernel_rfl) (fun oi hoi => ?_) rfl
        rotate_left
        simp only [List.getElem?_toArray, List.getElem?_cons_succ, List.getElem?_cons_zero] at hoi
        cases hoi
        refine ⟨fun _ _ _ h => h, Or.inl ⟨by rfl, ?_⟩, by assumption, ?_⟩
        · (intro w hSw; (try dsimp only at hSw); go_simp; all_goals with_reducible rfl)
        try simp only [Act.put, List.setIfInBounds_toArray, List.set_cons_zero, List.set_cons_succ]
        refine C.tk_take (i := 10) (v := ?_) (by kernel_rfl) (by kernel_rfl) (by kernel_rfl) (fun oi hoi => ?_) rfl
        rotate_left
        simp only [List.getElem?_toArray, List.getElem?_cons_succ, List.getElem?_cons_zero] at hoi
        cases hoi
        refine ⟨fun _ _ _ h => h, Or.inl ⟨by rfl, ?_⟩, by assumption, ?_⟩
        · (intro w hSw; (try dsimp only at hSw); go_simp; all_goals with_reducible rfl)
        try simp only [Act.put, List.setIfInBounds_toArray, List.set_cons_zero, List.set_cons_succ]
        refine wpAnyH_ready (rs := [11]) (by kernel_rfl) (by simp) ?_
        refine AllReadyH.cons rfl (fun K hK => ?_) AllReadyH.nil
        rw [if_pos (by rfl)]
        go_simp
        go_at_call 26
        rw [← HM7.out]
        refine (slices_ClonePar.calls A7 c7 x7 x7 _ (Kd.C_below (Kd.C_below (show Kd.C k69 w A7 x7.length x7 by rw [HM7.out]; exact HC7.out.2) HB5.out) (below_drew (Below.refl _ _))) (HM7.out ▸ HC7.out.1) HF7.out).mono ?_
        rintro e w6 ⟨v7, rfl, ho, hb⟩
        obtain ⟨A8, n8, c8, rfl⟩ := R_slc ho
        have hb6 := below_step (below_drew (Below.refl W5.heap.size W5)) hb
        have HB6 := Aside0.mk (below_step HB5.out hb6)
        have HX6 := Aside0.mk (blk_below HX5.out hb6)
        have HP6 := Aside0.mk ho
        have HO6 := Aside0.mk (Kd.R_below HO5.out hb6)
        have HZ6 := Aside0.mk (show w.heap.size ≤ W5.drew.heap.size from HB5.out.size)
        have hS6 : w6.cell? ⟨gb, 0, none⟩ = some (.string x0) ∧ w6.cell? ⟨gb, 1, none⟩ = some (.int .i64 x1) ∧ w6.cell? ⟨gb, 2, none⟩ = some (.int .i64 x2) ∧ w6.cell? ⟨gb, 4, none⟩ = some (.int .i32 x4) ∧ w6.cell? ⟨gb, 7, none⟩ = some (.slice A7 q7 c7) := ⟨blk_cell HX6.out 0, blk_cell HX6.out 1, blk_cell HX6.out 2, blk_cell HX6.out 4, blk_cell HX6.out 7⟩
        clear hb hb6 ho
        try rw [HM7.out]
        go_wp2
        refine hK.out _ _ hS6 (fun hHeld => ?_)
        clear hK
        try simp only [Act.put, List.setIfInBounds_toArray, List.set_cons_zero, List.set_cons_succ]
        refine C.tk_take (i := 12) (v := ?_) (by kernel_rfl) (by kernel_rfl) (by kernel_rfl) (fun oi hoi => ?_) rfl
        rotate_left
        simp only [List.getElem?_toArray, List.getElem?_cons_succ, List.getElem?_cons_zero] at hoi
        cases hoi
        refine ⟨fun _ _ _ h => h, Or.inl ⟨by rfl, ?_⟩, by assumption, ?_⟩
        · (intro w hSw; (try dsimp only at hSw); go_simp; all_goals with_reducible rfl)
        try simp only [Act.put, List.setIfInBounds_toArray, List.set_cons_zero, List.set_cons_succ]
        refine wpAnyH_ready (rs := [13]) (by kernel_rfl) (by simp) ?_
        refine AllReadyH.cons rfl (fun K hK => ?_) AllReadyH.nil
        rw [if_pos (by rfl)]
        go_simp
        refine hK.out _ _ ⟨pw_cell_below (below_alloc (Below.refl _ _) _) (hS6.1), pw_cell_below (below_alloc (Below.refl _ _) _) (hS6.2.1), pw_cell_below (below_alloc (Below.refl _ _) _) (hS6.2.2.1), pw_cell_below (below_alloc (Below.refl _ _) _) (hS6.2.2.2.1), pw_cell_below (below_alloc (Below.refl _ _) _) (hS6.2.2.2.2)⟩ (fun hHeld => ?_)
        clear hK
        try simp only [Act.put, List.setIfInBounds_toArray, List.set_cons_zero, List.set_cons_succ]
        refine wpAnyH_ready (rs := [14]) (by kernel_rfl) (by simp) ?_
        refine AllReadyH.cons rfl (fun K hK => ?_) AllReadyH.nil
        refine Kd.R_append_step k71 (w0 := w) (W := w6) w.heap.size (by rfl) (.tmp 19) (.tmp 32) 42 71 (.agg #[(.string ⟨#[]⟩), (.int .i64 0), (.int .i64 0), (.int .i32 0), (.slice none 0 0)]) 64 rfl Try.underlying42 info71 rfl (by decide) (by decide) (.slice A3 n3 c3) (sc_exps (d.take i)) (⟨x0, x1, x2, x4, x7⟩ : S71) [.string x0, .int .i64 x1, .int .i64 x2, .int .i32 x4, .slice A8 n8 c8] (fun _ => True) (fun k => w.heap.size ≤ k ∧ some k ≠ (Value.slice A3 n3 c3).ownBlock) (by first | rfl | (simp [Act.eval, Act.put]; done)) (by first | rfl | (simp [Act.eval, Act.put]; done)) (k71_mkM _ _ _ (⟨x0, x1, x2, x4, x7⟩ : S71) (Kd.R_mono (Kd.R_bound (Kd.R_lower (Kd.R_mono (Kd.R_bound HP6.out) (fun k hk => (⟨Nat.le_trans HZ6.out hk.2.1, fun e => by have := Kd.R_lt HO5.out k e.symm; have h2 := hk.2.1; have h3 : W5.heap.size ≤ k := h2; omega⟩ : w.heap.size ≤ k ∧ some k ≠ (Value.slice A3 n3 c3).ownBlock))) HZ6.out)) (fun k hk => hk.1))) (fun _ hk => ⟨trivial, hk.2⟩) (fun _ _ => trivial) HO6.out HB6.out HB6.out.size (by have h1 := sc_exps_len (d.take i); rw [List.length_take] at h1; have := HQ.out; have := HL.out; omega) ?_
        intro v1 w1 ho hb hg hat
        obtain ⟨A1, n1, c1, rfl⟩ := R_slc ho
        have HO1 := Aside0.mk ho
        have HB1 := Aside0.mk hb
        have hx1 := blk_grown HX6.out hg (Kd.R_ne HO6.out HX6.out (by decide))
        have hS1 : w1.cell? ⟨gb, 0, none⟩ = some (.string x0) ∧ w1.cell? ⟨gb, 1, none⟩ = some (.int .i64 x1) ∧ w1.cell? ⟨gb, 2, none⟩ = some (.int .i64 x2) ∧ w1.cell? ⟨gb, 4, none⟩ = some (.int .i32 x4) ∧ w1.cell? ⟨gb, 7, none⟩ = some (.slice A7 q7 c7) := ⟨blk_cell hx1 0, blk_cell hx1 1, blk_cell hx1 2, blk_cell hx1 4, blk_cell hx1 7⟩
        clear ho hb hg hat hx1
        refine hK.out _ _ hS1 (fun hHeld => ?_)
        clear hK
        try simp only [Act.put, List.setIfInBounds_toArray, List.set_cons_zero, List.set_cons_succ]
        refine C.tk_take (i := 15) (v := ?_) (by kernel_rfl) (by kernel_rfl) (by kernel_rfl) (fun oi hoi => ?_) rfl
        rotate_left
        simp only [List.getElem?_toArray, List.getElem?_cons_succ, List.getElem?_cons_zero] at hoi
        cases hoi
        refine ⟨fun _ _ _ h => h, Or.inl ⟨by rfl, ?_⟩, by assumption, ?_⟩
        · (intro w hSw; (try dsimp only at hSw); go_simp; all_goals with_reducible rfl)
        try simp only [Act.put, List.setIfInBounds_toArray, List.set_cons_zero, List.set_cons_succ]
        refine wpAnyH_done (by kernel_rfl) ?_ _
        go_wp2
        go_roundg (q - i)
        case measure => have := HI.out; have := HH.out; omega
        case rel => exact ⟨i + 1, A1, n1, c1, rfl, by first | rfl | (simp; done), ⟨by have := HI.out; have := HH.out; omega⟩, HB1, ⟨by rw [HTK.out, sc_exps_yes _ _ rfl]; exact HO1.out⟩⟩
      | false =>
        go_wp2_with ((with_reducible refine gate_dst (N := 5) rfl ?_); refine box_event ?hg (N := 5) ?hd (cs := #[.string ⟨#[]⟩, .int .i64 0, .int .i64 0, .int .i64 0, .int .i32 0, .int .i64 0, .bool false, .slice none 0 0]) (t := 25) ?hr ?_; (case hd => rfl); (case hg => rfl); (case hr => first | (go_simp; done) | (go_simp; rfl)); intro gb hgx w3 hbox hb; have HB3 := Aside0.mk hb; have HX3 := Aside0.mk hbox; have HG3 := Aside0.mk (show wr.heap.size ≤ gb from Nat.le_of_eq hgx.symm); have f0 := blk_frozen hbox 0; have b0 : w3.cell? ⟨gb, 0, none⟩ = some _ := blk_cell hbox 0; have f1 := blk_frozen hbox 1; have b1 : w3.cell? ⟨gb, 1, none⟩ = some _ := blk_cell hbox 1; have f2 := blk_frozen hbox 2; have b2 : w3.cell? ⟨gb, 2, none⟩ = some _ := blk_cell hbox 2; have f3 := blk_frozen hbox 3; have b3 : w3.cell? ⟨gb, 3, none⟩ = some _ := blk_cell hbox 3; have f4 := blk_frozen hbox 4; have b4 : w3.cell? ⟨gb, 4, none⟩ = some _ := blk_cell hbox 4; have f5 := blk_frozen hbox 5; have b5 : w3.cell? ⟨gb, 5, none⟩ = some _ := blk_cell hbox 5; have f6 := blk_frozen hbox 6; have b6 : w3.cell? ⟨gb, 6, none⟩ = some _ := blk_cell hbox 6; have f7 := blk_frozen hbox 7; have b7 : w3.cell? ⟨gb, 7, none⟩ = some _ := blk_cell hbox 7; clear hgx hbox hb)
        go_roundg (q - i)
        case measure => have := HI.out; have := HH.out; omega
        case rel => exact ⟨i + 1, A3, n3, c3, rfl, by first | rfl | (simp; done), ⟨by have := HI.out; have := HH.out; omega⟩, ⟨below_step HB.out (sc_put8b HB3.out HG3.out _ _ _ _ _ _ _ _)⟩, ⟨by rw [HTK.out, sc_exps_no _ _ rfl]; exact Kd.R_below HO.out (sc_put8b HB3.out HG3.out _ _ _ _ _ _ _ _)⟩⟩
    · have i2 : decide ((i : Int) < (q : Int)) = false := decide_eq_false (by omega)
      have hiq : i = q := by have := HI.out; omega
      subst hiq
      go_wp2
      go_ret
      exact ⟨_, rfl, by have h := HO.out; rw [List.take_of_length_le (Nat.le_of_eq HQ.out)] at h; exact h, HB.out⟩

end Go.Proofs.Ytkgjpelddncfdaa.P

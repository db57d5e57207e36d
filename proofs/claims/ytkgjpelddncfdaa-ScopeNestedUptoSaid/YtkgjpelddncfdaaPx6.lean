-- Written by a program of this session (wip/tools/hp.py) out of the translation.
import Derived.Test.YtkgjpelddncfdaaPx0
import Derived.Test.YtkgjpelddncfdaaPx2
import Derived.Test.YtkgjpelddncfdaaPx3
import Derived.Test.YtkgjpelddncfdaaPx5
namespace Go.Proofs.Ytkgjpelddncfdaa.P
open Go.RowKit Go.Proofs.YtkgjpelddncfdaaW.PrintWords Go.Proofs.YtkgjpelddncfdaaW.PrintLast Go.Proofs.YtkgjpelddncfdaaW.PrintMore
attribute [local go_sem] max2_int min2_int max_two min_two max_three min_three max_four min_four   -- for this text's walks alone
set_option linter.unusedVariables false
set_option linter.unusedSimpArgs false

/-! ### scope_Scopes_Find: function 8 -/
/-- The innermost one of the first k levels. -/
def sc_from (D : List (List S25)) (a : ByteArray) : Nat → Option (Nat × Nat)
  | 0 => none
  | k + 1 => if 0 ≤ sc_ix (D.getD k []) a then some (k, (sc_ix (D.getD k []) a).toNat) else sc_from D a k
def sc_got (D : List (List S25)) : Option (Nat × Nat) → S25 × Int
  | none => (z25, 110)
  | some (k, i) => ((D.getD k []).getD i z25, 0)
def sc_find (D : List (List S25)) (a : ByteArray) : S25 × Int := sc_got D (sc_from D a D.length)
/-- What is handed back: an object, and a number. -/
def ScFound (r : S25 × Int) (e : Ending) (w' : World) : Prop := ∃ A c, e = .returned (.tuple #[.agg (sc_cells r.1 (.slice A r.1.f7.length c)), .int .i64 r.2]) ∧ r.1.f7.length ≤ c ∧ Kd.C k69 w' A r.1.f7.length r.1.f7
theorem sc_put8 {w : World} {g : Nat} {t : TypeId} {x0 x1 x2 x3 x4 x5 x6 x7 : Value} (h : w.heap[g]? = some (.cells #[x0, x1, x2, x3, x4, x5, x6, x7] t (0, 0))) (y0 y1 y2 y3 y4 y5 y6 y7 : Value) :
    ((((((((w.setCell ⟨g, 0, none⟩ y0).setCell ⟨g, 1, none⟩ y1).setCell ⟨g, 2, none⟩ y2).setCell ⟨g, 3, none⟩ y3).setCell ⟨g, 4, none⟩ y4).setCell ⟨g, 5, none⟩ y5).setCell ⟨g, 6, none⟩ y6).setCell ⟨g, 7, none⟩ y7).heap[g]? = some (.cells #[y0, y1, y2, y3, y4, y5, y6, y7] t (0, 0)) := by
  have h1 := blk_put (cs' := #[y0, x1, x2, x3, x4, x5, x6, x7]) h 0 y0 rfl
  have h2 := blk_put (cs' := #[y0, y1, x2, x3, x4, x5, x6, x7]) h1 1 y1 rfl
  have h3 := blk_put (cs' := #[y0, y1, y2, x3, x4, x5, x6, x7]) h2 2 y2 rfl
  have h4 := blk_put (cs' := #[y0, y1, y2, y3, x4, x5, x6, x7]) h3 3 y3 rfl
  have h5 := blk_put (cs' := #[y0, y1, y2, y3, y4, x5, x6, x7]) h4 4 y4 rfl
  have h6 := blk_put (cs' := #[y0, y1, y2, y3, y4, y5, x6, x7]) h5 5 y5 rfl
  have h7 := blk_put (cs' := #[y0, y1, y2, y3, y4, y5, y6, x7]) h6 6 y6 rfl
  have h8 := blk_put (cs' := #[y0, y1, y2, y3, y4, y5, y6, y7]) h7 7 y7 rfl
  exact h8
theorem sc_put8b {w0 w : World} {g : Nat} (hb : Below w0.heap.size w0 w) (hg : w0.heap.size ≤ g) (y0 y1 y2 y3 y4 y5 y6 y7 : Value) :
    Below w0.heap.size w0 ((((((((w.setCell ⟨g, 0, none⟩ y0).setCell ⟨g, 1, none⟩ y1).setCell ⟨g, 2, none⟩ y2).setCell ⟨g, 3, none⟩ y3).setCell ⟨g, 4, none⟩ y4).setCell ⟨g, 5, none⟩ y5).setCell ⟨g, 6, none⟩ y6).setCell ⟨g, 7, none⟩ y7) :=
  below_set (below_set (below_set (below_set (below_set (below_set (below_set (below_set hb hg) hg) hg) hg) hg) hg) hg) hg
set_option maxRecDepth 100000 in
set_option maxHeartbeats 4000000 in
theorem sc_Find_calls {base : Nat} {w : World} {g : Nat} {col : Nat → Nat} {D M : List (List S25)} (h : IsS base w g col D M) (a : ByteArray) :
    Calls Try.prog 8 #[.pointer (some ⟨g, 0, none⟩), .string a] w fun e w' => ScFound (sc_find D a) e w' ∧ Below w.heap.size w w' := by
  have HS := Aside0.mk h
  have hl := h.len
  obtain ⟨go, cc, ck, Ak, vm, vs, h1, -⟩ := h.row 0 (by omega)
  have H1 := Aside0.mk h1
  have HL := Aside0.mk hl
  obtain ⟨n, hn⟩ : ∃ n : Nat, D.length = n + 1 := ⟨D.length - 1, by omega⟩
  have HN := Aside0.mk hn
  obtain ⟨R, hR⟩ : ∃ R, sc_from D a D.length = R := ⟨_, rfl⟩
  unfold sc_find
  rw [hR]
  have HR := Aside0.mk hR
  have hn2 : n ≤ 64 := by omega
  rw [hn] at h1
  replace H1 := Aside0.mk h1
  clear h h1 hl hn hR
  go_enter Try.func8, Try.ntmps8
  go_wp2_with ((with_reducible refine gate_dst (N := 4) rfl ?_); refine box_event ?hg (N := 4) ?hd (cs := #[.string ⟨#[]⟩, .int .i64 0, .int .i64 0, .int .i64 0, .int .i32 0, .int .i64 0, .bool false, .slice none 0 0]) (t := 25) ?hr ?_; (case hd => rfl); (case hg => rfl); (case hr => first | (go_simp; done) | (go_simp; rfl)); intro gb hgx w3 hbox hb; have HB3 := Aside0.mk hb; have HX3 := Aside0.mk hbox; have HG3 := Aside0.mk (show w.heap.size ≤ gb from Nat.le_of_eq hgx.symm); have c0 : w3.cell? ⟨g, 0, none⟩ = some (.slice (some ⟨go, 0, none⟩) (n + 1) cc) := blk_cell (blk_below H1.out hb) 0; clear hgx hbox hb)
  clear c0
  go_loopg [6] (D.length + 1) (fun kx v6 wr => ∃ (j : Nat) (v : Int), v6 = .int .i64 v ∧ Aside0 (v = (j : Int) - 1 ∧ kx = j + 1 ∧ j ≤ D.length) ∧ Aside0 (Below w.heap.size w wr) ∧ Aside0 (wr.heap[gb]? = some (.cells #[.string ⟨#[]⟩, .int .i64 0, .int .i64 0, .int .i64 0, .int .i32 0, .int .i64 0, .bool false, .slice none 0 0] 25 (0, 0))) ∧ Aside0 (sc_from D a j = R))
  case atStart => exact ⟨D.length, (n : Int), rfl, ⟨⟨by have := HN.out; omega, rfl, Nat.le_refl _⟩⟩, HB3, HX3, HR⟩
  case round =>
    obtain ⟨j, v, rfl, HI, HB, HX, HF⟩ := hrel
    cases j with
    | zero =>
      have hv : v = -1 := by have := HI.out.1; omega
      have hR : R = none := by rw [← HF.out]; rfl
      subst hv
      subst hR
      have f0 := blk_frozen HX.out 0; have f1 := blk_frozen HX.out 1; have f2 := blk_frozen HX.out 2; have f3 := blk_frozen HX.out 3; have f4 := blk_frozen HX.out 4; have f5 := blk_frozen HX.out 5; have f6 := blk_frozen HX.out 6; have f7 := blk_frozen HX.out 7
      have c0 : wr.cell? ⟨gb, 0, none⟩ = some _ := blk_cell HX.out 0
      have c1 : wr.cell? ⟨gb, 1, none⟩ = some _ := blk_cell HX.out 1
      have c2 : wr.cell? ⟨gb, 2, none⟩ = some _ := blk_cell HX.out 2
      have c3 : wr.cell? ⟨gb, 3, none⟩ = some _ := blk_cell HX.out 3
      have c4 : wr.cell? ⟨gb, 4, none⟩ = some _ := blk_cell HX.out 4
      have c5 : wr.cell? ⟨gb, 5, none⟩ = some _ := blk_cell HX.out 5
      have c6 : wr.cell? ⟨gb, 6, none⟩ = some _ := blk_cell HX.out 6
      have c7 : wr.cell? ⟨gb, 7, none⟩ = some _ := blk_cell HX.out 7
      go_wp2
      refine bodyPost_ret (results_list (rs := [.cell 4 25, .tmp 5]) rfl (by simp) (.cell gb 25 #[.string ⟨#[]⟩, .int .i64 0, .int .i64 0, .int .i64 0, .int .i32 0, .int .i64 0, .bool false, .slice none 0 0] (0, 0) _ rfl (sc_put8 HX.out _ _ _ _ _ _ _ _) Try.underlying25 rfl (by kernel_rfl) (.tmp .nil))) rfl ?_
      exact ⟨⟨none, 0, rfl, Nat.le_refl _, Kd.C_nil _ _⟩, sc_put8b HB.out HG3.out _ _ _ _ _ _ _ _⟩
    | succ k =>
      obtain rfl : v = (k : Int) := by have := HI.out.1; omega
      have hk : k < D.length := HI.out.2.2
      obtain ⟨gor, ccr, ckr, Akr, vmr, vsr, h1, -, -, -, -, -, h7, -, h9, h10, -⟩ := HS.out.row k hk
      have hF := HF.out
      unfold sc_from at hF
      obtain ⟨r, hr⟩ : ∃ r, sc_ix (D.getD k []) a = r := ⟨_, rfl⟩
      rw [hr] at hF
      have hf : scope_find.f (D.getD k []) a = some r := by unfold scope_find.f; rw [if_pos (by omega), hr]
      have hrr : 0 ≤ r → r < ((D.getD k []).length : Int) := fun h0 => by
        have := os_ix_lt (sc_is a) (D.getD k []) 0 (by omega) (by rw [show os_ix (sc_is a) (D.getD k []) 0 = r from hr]; exact h0)
        rw [show os_ix (sc_is a) (D.getD k []) 0 = r from hr] at this
        omega
      have hrd : ∀ i : Nat, (D.getD k []).getD i z25 = rd_T25 (D.getD k []) (i : Int) := fun i => by unfold rd_T25; rw [Int.toNat_natCast]
      have hsg : 0 ≤ r → sc_got D (some (k, r.toNat)) = (rd_T25 (D.getD k []) r, 0) := fun h0 => by unfold sc_got; dsimp only; rw [hrd, Int.toNat_of_nonneg h0]
      clear hr hrd
      generalize D.getD k [] = d at *
      generalize hm : d.length = q at *
      rw [HN.out] at h1
      have c0 : wr.cell? ⟨g, 0, none⟩ = some (.slice (some ⟨gor, 0, none⟩) (n + 1) ccr) := blk_cell (blk_below h1 HB.out) 0
      replace h7 := pw_cell_below HB.out h7
      have p1 : (0 : Int) ≤ (k : Int) := by omega
      have p2 : (k : Int) < (n : Int) + 1 := by have := HN.out; omega
      have H1r := Aside0.mk h1; have H7r := Aside0.mk h7; have H9r := Aside0.mk h9; have H10r := Aside0.mk h10; have HFr := Aside0.mk hf; have HM := Aside0.mk hm; have HRR := Aside0.mk hrr; have HSG := Aside0.mk hsg; have HFF := Aside0.mk hF; have HKK := Aside0.mk hk
      clear h1 h9 h10 hf hm hrr hsg hF hk
      by_cases hr0 : 0 ≤ r
      · have hRs := HFF.out
        rw [if_pos hr0] at hRs
        have hz1 : decide (r ≥ 0) = true := decide_eq_true hr0
        have hrq := HRR.out hr0
        obtain ⟨ad, A7, c7, e, hx0, hx1, hx2, hx3, hx4, hx5, hx6, hx7, hle, hC7⟩ := at_T25 (Kd.R_reads' H9r.out).2.2 r hr0 (by have := HM.out; omega)
        cases e
        obtain ⟨x, hx⟩ : ∃ x, rd_T25 d r = x := ⟨_, rfl⟩
        have hsg := HSG.out hr0
        rw [hx] at hx0 hx1 hx2 hx3 hx4 hx5 hx6 hx7 hle hC7 hsg
        obtain ⟨x0, x1, x2, x3, x4, x5, x6, x7⟩ := x
        dsimp only at hx0 hx1 hx2 hx3 hx4 hx5 hx6 hx7 hle hC7
        generalize hm7 : x7.length = q7 at *
        have HX8 := Aside0.mk (And.intro hx0 (And.intro hx1 (And.intro hx2 (And.intro hx3 (And.intro hx4 (And.intro hx5 (And.intro hx6 hx7)))))))
        have HC7 := Aside0.mk (And.intro hle hC7)
        have HM7 := Aside0.mk hm7
        have HRs := Aside0.mk hRs; have HSg := Aside0.mk hsg; have HXX := Aside0.mk hx
        clear hx0 hx1 hx2 hx3 hx4 hx5 hx6 hx7 hle hC7 hRs hsg hx hm7
        go_wp2_with (first
          | (go_at_call 25; rw [← HM.out]; ((with_reducible refine (scope_find.calls (some ad) ckr d a r _ (Kd.C_below (Kd.R_reads' H9r.out).2.2 HB.out) (HM.out ▸ (Kd.R_reads' H9r.out).2.1) HFr.out).mono ?_)); rintro e w4 ⟨rfl, hb⟩; try rw [HM.out]; have HB4 := Aside0.mk (below_step HB.out hb); have hX4 := blk_below HX.out hb; have HX4 := Aside0.mk hX4; have c04 : w4.cell? ⟨g, 0, none⟩ = some (.slice (some ⟨gor, 0, none⟩) (n + 1) ccr) := blk_cell (blk_below H1r.out HB4.out) 0; have cr4 : w4.cell? ⟨gor, k, none⟩ = some (.slice (some ad) q ckr) := pw_cell_below hb H7r.out; have y0 := pw_cell_below HB4.out HX8.out.1; have y1 := pw_cell_below HB4.out HX8.out.2.1; have y2 := pw_cell_below HB4.out HX8.out.2.2.1; have y3 := pw_cell_below HB4.out HX8.out.2.2.2.1; have y4 := pw_cell_below HB4.out HX8.out.2.2.2.2.1; have y5 := pw_cell_below HB4.out HX8.out.2.2.2.2.2.1; have y6 := pw_cell_below HB4.out HX8.out.2.2.2.2.2.2.1; have y7 := pw_cell_below HB4.out HX8.out.2.2.2.2.2.2.2; have f0 := blk_frozen hX4 0; have f1 := blk_frozen hX4 1; have f2 := blk_frozen hX4 2; have f3 := blk_frozen hX4 3; have f4 := blk_frozen hX4 4; have f5 := blk_frozen hX4 5; have f6 := blk_frozen hX4 6; have f7 := blk_frozen hX4 7; have b0 : w4.cell? ⟨gb, 0, none⟩ = some _ := blk_cell hX4 0; have b1 : w4.cell? ⟨gb, 1, none⟩ = some _ := blk_cell hX4 1; have b2 : w4.cell? ⟨gb, 2, none⟩ = some _ := blk_cell hX4 2; have b3 : w4.cell? ⟨gb, 3, none⟩ = some _ := blk_cell hX4 3; have b4 : w4.cell? ⟨gb, 4, none⟩ = some _ := blk_cell hX4 4; have b5 : w4.cell? ⟨gb, 5, none⟩ = some _ := blk_cell hX4 5; have b6 : w4.cell? ⟨gb, 6, none⟩ = some _ := blk_cell hX4 6; have b7 : w4.cell? ⟨gb, 7, none⟩ = some _ := blk_cell hX4 7; clear hX4; try clear hb))
        refine bodyPost_ret (results_list (rs := [.cell 4 25, .tmp 5]) rfl (by simp) (.cell gb 25 #[.string x0, .int .i64 x1, .int .i64 x2, .int .i64 x3, .int .i32 x4, .int .i64 x5, .bool x6, .slice A7 q7 c7] (0, 0) _ rfl (sc_put8 HX4.out _ _ _ _ _ _ _ _) Try.underlying25 rfl (by kernel_rfl) (.tmp .nil))) rfl ?_
        have hb4 := sc_put8b HB4.out HG3.out (.string x0) (.int .i64 x1) (.int .i64 x2) (.int .i64 x3) (.int .i32 x4) (.int .i64 x5) (.bool x6) (.slice A7 q7 c7)
        refine ⟨?_, hb4⟩
        rw [← HRs.out, HSg.out]
        refine ⟨A7, c7, ?_, ?_, ?_⟩
        · rw [← HM7.out]; rfl
        · show x7.length ≤ c7; rw [HM7.out]; exact HC7.out.1
        · show Kd.C _ _ _ x7.length x7; rw [HM7.out]; exact Kd.C_below HC7.out.2 hb4
      · have hRs := HFF.out
        rw [if_neg hr0] at hRs
        have hz1 : decide (r ≥ 0) = false := decide_eq_false hr0
        have HRs := Aside0.mk hRs
        clear hRs
        go_wp2_with (first
          | (go_at_call 25; rw [← HM.out]; ((with_reducible refine (scope_find.calls Akr ckr d a r _ (Kd.C_below (HM.out ▸ (Kd.R_reads' H9r.out).2.2) HB.out) (HM.out ▸ (Kd.R_reads' H9r.out).2.1) HFr.out).mono ?_)); rintro e w4 ⟨rfl, hb⟩; try rw [HM.out]; have HB4 := Aside0.mk (below_step HB.out hb); have HX4 := Aside0.mk (blk_below HX.out hb); try clear hb))
        go_roundg (k + 1)
        case measure => have := HI.out; omega
        case rel => exact ⟨k, (k : Int) - 1, by first | rfl | (simp; done), ⟨rfl, rfl, by have := HKK.out; omega⟩, HB4, HX4, HRs⟩

end Go.Proofs.Ytkgjpelddncfdaa.P

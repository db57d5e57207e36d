-- Written by a program of this session (wip/tools/hp.py) out of the translation.
import Derived.Test.YtkgjpelddncfdaaPx0
import Derived.Test.YtkgjpelddncfdaaPx2
import Derived.Test.YtkgjpelddncfdaaPx3
import Derived.Test.YtkgjpelddncfdaaPx6
namespace Go.Proofs.Ytkgjpelddncfdaa.P
open Go.RowKit Go.Proofs.YtkgjpelddncfdaaW.PrintWords Go.Proofs.YtkgjpelddncfdaaW.PrintLast Go.Proofs.YtkgjpelddncfdaaW.PrintMore
attribute [local go_sem] max2_int min2_int max_two min_two max_three min_three max_four min_four   -- for this text's walks alone
set_option linter.unusedVariables false
set_option linter.unusedSimpArgs false

/-! ### scope_Scopes_Member: function 17 -/
theorem sc_at_row {α : Type} {d : Kd α} {e n : Nat} {w : World} {A : Option Addr} {xs : List (List α)} (h : (Kd.slice e d).C w A n xs) (i : Nat) (hi : i < n) :
    ∃ ad A0 c0, A = some ad ∧ w.cell? (ad.add i) = some (.slice A0 (xs.getD i []).length c0) ∧ (xs.getD i []).length ≤ c0 ∧ d.C w A0 (xs.getD i []).length (xs.getD i []) := by
  obtain ⟨ad, c, e, _, hK, hc0⟩ := Kd.C_get h ([] : List α) (i : Int) (by omega) (by omega)
  rw [Int.toNat_natCast] at hK hc0
  obtain ⟨A0, c0, rfl, l0, g0⟩ := hK
  exact ⟨ad, A0, c0, e, by have hq := hc0 0 _ rfl; rwa [show i * (Kd.slice _ d).sz + 0 = i by show i * 1 + 0 = i; omega] at hq, l0, g0⟩
/-- What a name names in module number m (from 1 on). -/
def sc_member (M : List (List S25)) (m : Int) (a : ByteArray) : S25 × Int :=
  if m < 1 ∨ (M.length : Int) < m then (z25, 110) else
  if 0 ≤ sc_ix (M.getD (m.toNat - 1) []) a then ((M.getD (m.toNat - 1) []).getD (sc_ix (M.getD (m.toNat - 1) []) a).toNat z25, 0) else (z25, 110)
set_option maxRecDepth 100000 in
set_option maxHeartbeats 4000000 in
theorem sc_Member_calls {base : Nat} {w : World} {g : Nat} {col : Nat → Nat} {D M : List (List S25)} (h : IsS base w g col D M) (m : Int) (a : ByteArray) :
    Calls Try.prog 17 #[.pointer (some ⟨g, 0, none⟩), .int .i64 m, .string a] w fun e w' => ScFound (sc_member M m a) e w' ∧ Below w.heap.size w w' := by
  have HS := Aside0.mk h
  have hl := h.len
  obtain ⟨vo, vm, vs, h1, -, -, -, -, h6, -⟩ := h
  obtain ⟨Am, cm, rfl⟩ := Kd.R_slice h6
  have hC := (Kd.R_reads' h6).2.2
  have H1 := Aside0.mk h1
  have HL := Aside0.mk hl
  have HC := Aside0.mk hC
  generalize hz : M.length = z at *
  have HZ := Aside0.mk hz
  have hz2 : z ≤ 64 := by omega
  have hz3 : (0 : Int) ≤ (z : Int) := by omega
  clear h1 hl h6 hC hz
  have zero : ∀ (w3 : World) (gb : Nat), w3.heap[gb]? = some (.cells #[.string ⟨#[]⟩, .int .i64 0, .int .i64 0, .int .i64 0, .int .i32 0, .int .i64 0, .bool false, .slice none 0 0] 25 (0, 0)) → Below w.heap.size w w3 → w.heap.size ≤ gb →
      ScFound (z25, 110) (.returned (.tuple #[.agg #[.string ⟨#[]⟩, .int .i64 0, .int .i64 0, .int .i64 0, .int .i32 0, .int .i64 0, .bool false, .slice none 0 0], .int .i64 110])) ((((((((w3.setCell ⟨gb, 0, none⟩ (.string ⟨#[]⟩)).setCell ⟨gb, 1, none⟩ (.int .i64 0)).setCell ⟨gb, 2, none⟩ (.int .i64 0)).setCell ⟨gb, 3, none⟩ (.int .i64 0)).setCell ⟨gb, 4, none⟩ (.int .i32 0)).setCell ⟨gb, 5, none⟩ (.int .i64 0)).setCell ⟨gb, 6, none⟩ (.bool false)).setCell ⟨gb, 7, none⟩ (.slice none 0 0)) ∧
      Below w.heap.size w ((((((((w3.setCell ⟨gb, 0, none⟩ (.string ⟨#[]⟩)).setCell ⟨gb, 1, none⟩ (.int .i64 0)).setCell ⟨gb, 2, none⟩ (.int .i64 0)).setCell ⟨gb, 3, none⟩ (.int .i64 0)).setCell ⟨gb, 4, none⟩ (.int .i32 0)).setCell ⟨gb, 5, none⟩ (.int .i64 0)).setCell ⟨gb, 6, none⟩ (.bool false)).setCell ⟨gb, 7, none⟩ (.slice none 0 0)) :=
    fun w3 gb hx hb hg => ⟨⟨none, 0, rfl, Nat.le_refl _, Kd.C_nil _ _⟩, sc_put8b hb hg _ _ _ _ _ _ _ _⟩
  have HZR := Aside0.mk zero
  clear zero
  by_cases hm1 : m < 1
  · have hd : decide (m < 1) = true := decide_eq_true hm1
    rw [show sc_member M m a = (z25, 110) by unfold sc_member; rw [if_pos (.inl hm1)]]
    go_enter Try.func17, Try.ntmps17
    go_wp2_with ((with_reducible refine gate_dst (N := 6) rfl ?_); refine box_event ?hg (N := 6) ?hd (cs := #[.string ⟨#[]⟩, .int .i64 0, .int .i64 0, .int .i64 0, .int .i32 0, .int .i64 0, .bool false, .slice none 0 0]) (t := 25) ?hr ?_; (case hd => rfl); (case hg => rfl); (case hr => first | (go_simp; done) | (go_simp; rfl)); intro gb hgx w3 hbox hb; have HB3 := Aside0.mk hb; have HX3 := Aside0.mk hbox; have HG3 := Aside0.mk (show w.heap.size ≤ gb from Nat.le_of_eq hgx.symm); have c03 : w3.cell? ⟨g, 1, none⟩ = some (.slice Am z cm) := blk_cell (blk_below H1.out hb) 1;  have f0 := blk_frozen hbox 0; have b0 : w3.cell? ⟨gb, 0, none⟩ = some _ := blk_cell hbox 0; have f1 := blk_frozen hbox 1; have b1 : w3.cell? ⟨gb, 1, none⟩ = some _ := blk_cell hbox 1; have f2 := blk_frozen hbox 2; have b2 : w3.cell? ⟨gb, 2, none⟩ = some _ := blk_cell hbox 2; have f3 := blk_frozen hbox 3; have b3 : w3.cell? ⟨gb, 3, none⟩ = some _ := blk_cell hbox 3; have f4 := blk_frozen hbox 4; have b4 : w3.cell? ⟨gb, 4, none⟩ = some _ := blk_cell hbox 4; have f5 := blk_frozen hbox 5; have b5 : w3.cell? ⟨gb, 5, none⟩ = some _ := blk_cell hbox 5; have f6 := blk_frozen hbox 6; have b6 : w3.cell? ⟨gb, 6, none⟩ = some _ := blk_cell hbox 6; have f7 := blk_frozen hbox 7; have b7 : w3.cell? ⟨gb, 7, none⟩ = some _ := blk_cell hbox 7; clear hgx hbox hb)
    refine bodyPost_ret (results_list (rs := [.cell 6 25, .tmp 7]) rfl (by simp) (.cell gb 25 #[.string ⟨#[]⟩, .int .i64 0, .int .i64 0, .int .i64 0, .int .i32 0, .int .i64 0, .bool false, .slice none 0 0] (0, 0) _ rfl (sc_put8 HX3.out _ _ _ _ _ _ _ _) Try.underlying25 rfl (by kernel_rfl) (.tmp .nil))) rfl ?_
    exact HZR.out _ _ HX3.out HB3.out HG3.out
  · have hd : decide (m < 1) = false := decide_eq_false hm1
    by_cases hm2 : (z : Int) < m
    · have hd2 : decide (m > (z : Int)) = true := decide_eq_true hm2
      rw [show sc_member M m a = (z25, 110) by unfold sc_member; rw [if_pos (.inr (by rw [HZ.out]; exact hm2))]]
      go_enter Try.func17, Try.ntmps17
      go_wp2_with ((with_reducible refine gate_dst (N := 6) rfl ?_); refine box_event ?hg (N := 6) ?hd (cs := #[.string ⟨#[]⟩, .int .i64 0, .int .i64 0, .int .i64 0, .int .i32 0, .int .i64 0, .bool false, .slice none 0 0]) (t := 25) ?hr ?_; (case hd => rfl); (case hg => rfl); (case hr => first | (go_simp; done) | (go_simp; rfl)); intro gb hgx w3 hbox hb; have HB3 := Aside0.mk hb; have HX3 := Aside0.mk hbox; have HG3 := Aside0.mk (show w.heap.size ≤ gb from Nat.le_of_eq hgx.symm); have c03 : w3.cell? ⟨g, 1, none⟩ = some (.slice Am z cm) := blk_cell (blk_below H1.out hb) 1;  have f0 := blk_frozen hbox 0; have b0 : w3.cell? ⟨gb, 0, none⟩ = some _ := blk_cell hbox 0; have f1 := blk_frozen hbox 1; have b1 : w3.cell? ⟨gb, 1, none⟩ = some _ := blk_cell hbox 1; have f2 := blk_frozen hbox 2; have b2 : w3.cell? ⟨gb, 2, none⟩ = some _ := blk_cell hbox 2; have f3 := blk_frozen hbox 3; have b3 : w3.cell? ⟨gb, 3, none⟩ = some _ := blk_cell hbox 3; have f4 := blk_frozen hbox 4; have b4 : w3.cell? ⟨gb, 4, none⟩ = some _ := blk_cell hbox 4; have f5 := blk_frozen hbox 5; have b5 : w3.cell? ⟨gb, 5, none⟩ = some _ := blk_cell hbox 5; have f6 := blk_frozen hbox 6; have b6 : w3.cell? ⟨gb, 6, none⟩ = some _ := blk_cell hbox 6; have f7 := blk_frozen hbox 7; have b7 : w3.cell? ⟨gb, 7, none⟩ = some _ := blk_cell hbox 7; clear hgx hbox hb)
      refine bodyPost_ret (results_list (rs := [.cell 6 25, .tmp 7]) rfl (by simp) (.cell gb 25 #[.string ⟨#[]⟩, .int .i64 0, .int .i64 0, .int .i64 0, .int .i32 0, .int .i64 0, .bool false, .slice none 0 0] (0, 0) _ rfl (sc_put8 HX3.out _ _ _ _ _ _ _ _) Try.underlying25 rfl (by kernel_rfl) (.tmp .nil))) rfl ?_
      exact HZR.out _ _ HX3.out HB3.out HG3.out
    · have hd2 : decide (m > (z : Int)) = false := decide_eq_false hm2
      obtain ⟨k, hk⟩ : ∃ k : Nat, m = (k : Int) + 1 := ⟨m.toNat - 1, by omega⟩
      subst hk
      have hkz : k < z := by omega
      have p1 : (0 : Int) ≤ (k : Int) := by omega
      have p2 : (k : Int) < (z : Int) := by omega
      obtain ⟨ad, Ar, cr, e, hcr, hlr, hCr⟩ := sc_at_row HC.out k hkz
      cases e
      obtain ⟨r, hr⟩ : ∃ r, sc_ix (M.getD k []) a = r := ⟨_, rfl⟩
      have hf : scope_find.f (M.getD k []) a = some r := by unfold scope_find.f; rw [if_pos (Kd.C_max hCr), hr]
      have hrr : 0 ≤ r → r < ((M.getD k []).length : Int) := fun h0 => by
        have := os_ix_lt (sc_is a) (M.getD k []) 0 (by omega) (by rw [show os_ix (sc_is a) (M.getD k []) 0 = r from hr]; exact h0)
        rw [show os_ix (sc_is a) (M.getD k []) 0 = r from hr] at this
        omega
      have hmem : sc_member M ((k : Int) + 1) a = if 0 ≤ r then (rd_T25 (M.getD k []) r, 0) else (z25, 110) := by
        unfold sc_member
        rw [if_neg (by rw [HZ.out]; omega), show ((k : Int) + 1).toNat - 1 = k by omega, hr]
        rfl
      rw [hmem]
      clear hr hmem
      generalize M.getD k [] = d at *
      generalize hq : d.length = q at *
      have HCR := Aside0.mk hcr; have HLR := Aside0.mk hlr; have HCr := Aside0.mk hCr; have HF := Aside0.mk hf; have HRR := Aside0.mk hrr; have HQ := Aside0.mk hq
      clear hcr hlr hCr hf hrr hq
      by_cases hr0 : 0 ≤ r
      · have hz1 : decide (r < 0) = false := decide_eq_false (by omega)
        rw [if_pos hr0]
        have hrq := HRR.out hr0
        obtain ⟨ae, A7, c7, e, hx0, hx1, hx2, hx3, hx4, hx5, hx6, hx7, hle, hC7⟩ := at_T25 HCr.out r hr0 (by omega)
        cases e
        obtain ⟨x, hx⟩ : ∃ x, rd_T25 d r = x := ⟨_, rfl⟩
        rw [hx] at hx0 hx1 hx2 hx3 hx4 hx5 hx6 hx7 hle hC7 ⊢
        clear hx
        obtain ⟨x0, x1, x2, x3, x4, x5, x6, x7⟩ := x
        dsimp only at hx0 hx1 hx2 hx3 hx4 hx5 hx6 hx7 hle hC7
        generalize hm7 : x7.length = q7 at hx0 hx1 hx2 hx3 hx4 hx5 hx6 hx7 hle hC7
        have HX8 := Aside0.mk (And.intro hx0 (And.intro hx1 (And.intro hx2 (And.intro hx3 (And.intro hx4 (And.intro hx5 (And.intro hx6 hx7)))))))
        have HC7 := Aside0.mk (And.intro hle hC7)
        have HM7 := Aside0.mk hm7
        clear hx0 hx1 hx2 hx3 hx4 hx5 hx6 hx7 hle hC7 hm7
        go_enter Try.func17, Try.ntmps17
        go_wp2_with (first | ((with_reducible refine gate_dst (N := 6) rfl ?_); refine box_event ?hg (N := 6) ?hd (cs := #[.string ⟨#[]⟩, .int .i64 0, .int .i64 0, .int .i64 0, .int .i32 0, .int .i64 0, .bool false, .slice none 0 0]) (t := 25) ?hr ?_; (case hd => rfl); (case hg => rfl); (case hr => first | (go_simp; done) | (go_simp; rfl)); intro gb hgx w3 hbox hb; have HB3 := Aside0.mk hb; have HX3 := Aside0.mk hbox; have HG3 := Aside0.mk (show w.heap.size ≤ gb from Nat.le_of_eq hgx.symm); have c03 : w3.cell? ⟨g, 1, none⟩ = some (.slice (some ad) z cm) := blk_cell (blk_below H1.out hb) 1; have cr3 : w3.cell? (ad.add k) = some (.slice (some ae) q cr) := pw_cell_below hb HCR.out; have f0 := blk_frozen hbox 0; have b0 : w3.cell? ⟨gb, 0, none⟩ = some _ := blk_cell hbox 0; have f1 := blk_frozen hbox 1; have b1 : w3.cell? ⟨gb, 1, none⟩ = some _ := blk_cell hbox 1; have f2 := blk_frozen hbox 2; have b2 : w3.cell? ⟨gb, 2, none⟩ = some _ := blk_cell hbox 2; have f3 := blk_frozen hbox 3; have b3 : w3.cell? ⟨gb, 3, none⟩ = some _ := blk_cell hbox 3; have f4 := blk_frozen hbox 4; have b4 : w3.cell? ⟨gb, 4, none⟩ = some _ := blk_cell hbox 4; have f5 := blk_frozen hbox 5; have b5 : w3.cell? ⟨gb, 5, none⟩ = some _ := blk_cell hbox 5; have f6 := blk_frozen hbox 6; have b6 : w3.cell? ⟨gb, 6, none⟩ = some _ := blk_cell hbox 6; have f7 := blk_frozen hbox 7; have b7 : w3.cell? ⟨gb, 7, none⟩ = some _ := blk_cell hbox 7; clear hgx hbox hb) | (go_at_call 25; rw [← HQ.out]; ((with_reducible refine (scope_find.calls (some ae) cr d a r _ (Kd.C_below (HQ.out ▸ HCr.out) HB3.out) (HQ.out ▸ HLR.out) HF.out).mono ?_)); rintro e w4 ⟨rfl, hb⟩; try rw [HQ.out]; have HB4 := Aside0.mk (below_step HB3.out hb); have hX4 := blk_below HX3.out hb; have HX4 := Aside0.mk hX4; have c04 : w4.cell? ⟨g, 1, none⟩ = some (.slice (some ad) z cm) := blk_cell (blk_below H1.out HB4.out) 1; have cr4 : w4.cell? (ad.add k) = some (.slice (some ae) q cr) := pw_cell_below HB4.out HCR.out; have f0 := blk_frozen hX4 0; have b0 : w4.cell? ⟨gb, 0, none⟩ = some _ := blk_cell hX4 0; have f1 := blk_frozen hX4 1; have b1 : w4.cell? ⟨gb, 1, none⟩ = some _ := blk_cell hX4 1; have f2 := blk_frozen hX4 2; have b2 : w4.cell? ⟨gb, 2, none⟩ = some _ := blk_cell hX4 2; have f3 := blk_frozen hX4 3; have b3 : w4.cell? ⟨gb, 3, none⟩ = some _ := blk_cell hX4 3; have f4 := blk_frozen hX4 4; have b4 : w4.cell? ⟨gb, 4, none⟩ = some _ := blk_cell hX4 4; have f5 := blk_frozen hX4 5; have b5 : w4.cell? ⟨gb, 5, none⟩ = some _ := blk_cell hX4 5; have f6 := blk_frozen hX4 6; have b6 : w4.cell? ⟨gb, 6, none⟩ = some _ := blk_cell hX4 6; have f7 := blk_frozen hX4 7; have b7 : w4.cell? ⟨gb, 7, none⟩ = some _ := blk_cell hX4 7; have y0 := pw_cell_below HB4.out HX8.out.1; have y1 := pw_cell_below HB4.out HX8.out.2.1; have y2 := pw_cell_below HB4.out HX8.out.2.2.1; have y3 := pw_cell_below HB4.out HX8.out.2.2.2.1; have y4 := pw_cell_below HB4.out HX8.out.2.2.2.2.1; have y5 := pw_cell_below HB4.out HX8.out.2.2.2.2.2.1; have y6 := pw_cell_below HB4.out HX8.out.2.2.2.2.2.2.1; have y7 := pw_cell_below HB4.out HX8.out.2.2.2.2.2.2.2; clear hX4; try clear hb))
        refine bodyPost_ret (results_list (rs := [.cell 6 25, .tmp 7]) rfl (by simp) (.cell gb 25 #[.string x0, .int .i64 x1, .int .i64 x2, .int .i64 x3, .int .i32 x4, .int .i64 x5, .bool x6, .slice A7 q7 c7] (0, 0) _ rfl (sc_put8 HX4.out _ _ _ _ _ _ _ _) Try.underlying25 rfl (by kernel_rfl) (.tmp .nil))) rfl ?_
        have hb4 := sc_put8b HB4.out HG3.out (.string x0) (.int .i64 x1) (.int .i64 x2) (.int .i64 x3) (.int .i32 x4) (.int .i64 x5) (.bool x6) (.slice A7 q7 c7)
        refine ⟨⟨A7, c7, ?_, ?_, ?_⟩, hb4⟩
        · dsimp only; rw [HM7.out]; rfl
        · show x7.length ≤ c7; rw [HM7.out]; exact HC7.out.1
        · show Kd.C _ _ _ x7.length x7; rw [HM7.out]; exact Kd.C_below HC7.out.2 hb4
      · have hz1 : decide (r < 0) = true := decide_eq_true (by omega)
        rw [if_neg hr0]
        go_enter Try.func17, Try.ntmps17
        go_wp2_with (first | ((with_reducible refine gate_dst (N := 6) rfl ?_); refine box_event ?hg (N := 6) ?hd (cs := #[.string ⟨#[]⟩, .int .i64 0, .int .i64 0, .int .i64 0, .int .i32 0, .int .i64 0, .bool false, .slice none 0 0]) (t := 25) ?hr ?_; (case hd => rfl); (case hg => rfl); (case hr => first | (go_simp; done) | (go_simp; rfl)); intro gb hgx w3 hbox hb; have HB3 := Aside0.mk hb; have HX3 := Aside0.mk hbox; have HG3 := Aside0.mk (show w.heap.size ≤ gb from Nat.le_of_eq hgx.symm); have c03 : w3.cell? ⟨g, 1, none⟩ = some (.slice (some ad) z cm) := blk_cell (blk_below H1.out hb) 1; have cr3 : w3.cell? (ad.add k) = some (.slice Ar q cr) := pw_cell_below hb HCR.out; have f0 := blk_frozen hbox 0; have b0 : w3.cell? ⟨gb, 0, none⟩ = some _ := blk_cell hbox 0; have f1 := blk_frozen hbox 1; have b1 : w3.cell? ⟨gb, 1, none⟩ = some _ := blk_cell hbox 1; have f2 := blk_frozen hbox 2; have b2 : w3.cell? ⟨gb, 2, none⟩ = some _ := blk_cell hbox 2; have f3 := blk_frozen hbox 3; have b3 : w3.cell? ⟨gb, 3, none⟩ = some _ := blk_cell hbox 3; have f4 := blk_frozen hbox 4; have b4 : w3.cell? ⟨gb, 4, none⟩ = some _ := blk_cell hbox 4; have f5 := blk_frozen hbox 5; have b5 : w3.cell? ⟨gb, 5, none⟩ = some _ := blk_cell hbox 5; have f6 := blk_frozen hbox 6; have b6 : w3.cell? ⟨gb, 6, none⟩ = some _ := blk_cell hbox 6; have f7 := blk_frozen hbox 7; have b7 : w3.cell? ⟨gb, 7, none⟩ = some _ := blk_cell hbox 7; clear hgx hbox hb) | (go_at_call 25; rw [← HQ.out]; ((with_reducible refine (scope_find.calls Ar cr d a r _ (Kd.C_below (HQ.out ▸ HCr.out) HB3.out) (HQ.out ▸ HLR.out) HF.out).mono ?_)); rintro e w4 ⟨rfl, hb⟩; try rw [HQ.out]; have HB4 := Aside0.mk (below_step HB3.out hb); have hX4 := blk_below HX3.out hb; have HX4 := Aside0.mk hX4; have c04 : w4.cell? ⟨g, 1, none⟩ = some (.slice (some ad) z cm) := blk_cell (blk_below H1.out HB4.out) 1; have cr4 : w4.cell? (ad.add k) = some (.slice Ar q cr) := pw_cell_below HB4.out HCR.out; have f0 := blk_frozen hX4 0; have b0 : w4.cell? ⟨gb, 0, none⟩ = some _ := blk_cell hX4 0; have f1 := blk_frozen hX4 1; have b1 : w4.cell? ⟨gb, 1, none⟩ = some _ := blk_cell hX4 1; have f2 := blk_frozen hX4 2; have b2 : w4.cell? ⟨gb, 2, none⟩ = some _ := blk_cell hX4 2; have f3 := blk_frozen hX4 3; have b3 : w4.cell? ⟨gb, 3, none⟩ = some _ := blk_cell hX4 3; have f4 := blk_frozen hX4 4; have b4 : w4.cell? ⟨gb, 4, none⟩ = some _ := blk_cell hX4 4; have f5 := blk_frozen hX4 5; have b5 : w4.cell? ⟨gb, 5, none⟩ = some _ := blk_cell hX4 5; have f6 := blk_frozen hX4 6; have b6 : w4.cell? ⟨gb, 6, none⟩ = some _ := blk_cell hX4 6; have f7 := blk_frozen hX4 7; have b7 : w4.cell? ⟨gb, 7, none⟩ = some _ := blk_cell hX4 7;  clear hX4; try clear hb))
        refine bodyPost_ret (results_list (rs := [.cell 6 25, .tmp 7]) rfl (by simp) (.cell gb 25 #[.string ⟨#[]⟩, .int .i64 0, .int .i64 0, .int .i64 0, .int .i32 0, .int .i64 0, .bool false, .slice none 0 0] (0, 0) _ rfl (sc_put8 HX4.out _ _ _ _ _ _ _ _) Try.underlying25 rfl (by kernel_rfl) (.tmp .nil))) rfl ?_
        exact HZR.out _ _ HX4.out HB4.out HG3.out

end Go.Proofs.Ytkgjpelddncfdaa.P

-- Written by a program of this session (wip/tools/hp.py) out of the translation.
import Derived.Test.YtkgjpelddncfdaaPx0
import Derived.Test.YtkgjpelddncfdaaPx2
import Derived.Test.YtkgjpelddncfdaaPx3
import Derived.Test.YtkgjpelddncfdaaPx4
import Derived.Test.YtkgjpelddncfdaaPx5
namespace Go.Proofs.Ytkgjpelddncfdaa.P
open Go.RowKit Go.Proofs.YtkgjpelddncfdaaW.PrintWords Go.Proofs.YtkgjpelddncfdaaW.PrintLast Go.Proofs.YtkgjpelddncfdaaW.PrintMore
attribute [local go_sem] max2_int min2_int max_two min_two max_three min_three max_four min_four   -- for this text's walks alone
set_option linter.unusedVariables false
set_option linter.unusedSimpArgs false

/-! ### scope_Scopes_Import: function 35 -/
/-- The object that a module's name names; what a module lets others use, as objects. -/
def sc_mod (a : ByteArray) (n lv : Int) : S25 := ⟨a, 8, 0, lv, n, 0, false, []⟩
def sc_imp (n : Int) (x : S71) : S25 := ⟨x.f0, x.f1, x.f2, 0, x.f3, n, false, x.f4⟩
def sc_imps (n : Int) (l : List S71) : List S25 := l.map (sc_imp n)
theorem sc_imps_len (n : Int) (l : List S71) : (sc_imps n l).length = l.length := by unfold sc_imps; rw [List.length_map]
set_option maxRecDepth 100000 in
set_option maxHeartbeats 1000000 in
theorem sc_Import_many {base : Nat} {w : World} {g : Nat} {col : Nat → Nat} {D M : List (List S25)} (h : IsS base w g col D M) (a : ByteArray) (A2 : Option Addr) (c2 : Nat) (l : List S71) (hn : M.length = 64) :
    Calls Try.prog 35 #[.pointer (some ⟨g, 0, none⟩), .string a, .slice A2 l.length c2] w fun e w' => e = .returned (.tuple #[.int .i64 0, .int .i64 243]) ∧ ScDone base w g col D M w' := by
  generalize l.length = q
  have HS := Aside0.mk h
  have hl := h.len
  have h0 := h
  obtain ⟨vo, vm, vs, h1, -, -, -, -, h6, -⟩ := h0
  obtain ⟨Am, cm, rfl⟩ := Kd.R_slice h6
  have c0 : w.cell? ⟨g, 1, none⟩ = some (.slice Am M.length cm) := blk_cell h1 1
  generalize hz : M.length = z at *
  have HZ := Aside0.mk hz; have HL := Aside0.mk hl
  clear h1 h6 hz hl h
  have hn2 : (64 : Int) ≤ (z : Int) := by omega
  clear hn
  go_enter Try.func35, Try.ntmps35
  go_wp2
  go_ret2
  exact ⟨rfl, ScDone.of_below HS.out (Below.refl _ _)⟩
/-- What Declare answers, as Import wants it. -/
def ScRef (D : List (List S25)) (a : ByteArray) (code : Int) : Prop :=
  ((a.toList.isEmpty = true ∨ (a.toList.isEmpty = false ∧ 32 < a.size)) ∧ code = 140) ∨
  ((a.toList.isEmpty = false ∧ a.size ≤ 32) ∧ 0 ≤ sc_ix (D.getD (D.length - 1) []) a ∧ code = 51) ∨
  ((a.toList.isEmpty = false ∧ a.size ≤ 32) ∧ sc_ix (D.getD (D.length - 1) []) a = -1 ∧ (D.getD (D.length - 1) []).length = 4096 ∧ code = 242)
theorem sc_Declare_no {base : Nat} {w : World} {g : Nat} {col : Nat → Nat} {D M : List (List S25)} (h : IsS base w g col D M) (x0 : ByteArray) (x1 x2 x3 x4 x5 : Int) (x6 : Bool) (A : Option Addr) (m c : Nat) (code : Int) (hr : ScRef D x0 code) :
    Calls Try.prog 11 #[.pointer (some ⟨g, 0, none⟩), .agg #[.string x0, .int .i64 x1, .int .i64 x2, .int .i64 x3, .int .i32 x4, .int .i64 x5, .bool x6, .slice A m c]] w fun e w' => e = .returned (.int .i64 code) ∧ ScDone base w g col D M w' := by
  rcases hr with ⟨hn, rfl⟩ | ⟨hn, h0, rfl⟩ | ⟨hn, h0, h2, rfl⟩
  · exact sc_Declare_name h x0 x1 x2 x3 x4 x5 x6 A m c hn
  · exact sc_Declare_twice h x0 x1 x2 x3 x4 x5 x6 A m c hn _ h0 rfl
  · exact sc_Declare_full h x0 x1 x2 x3 x4 x5 x6 A m c hn h0 h2
theorem ScRef.ne {D : List (List S25)} {a : ByteArray} {code : Int} (h : ScRef D a code) : (code == 0) = false ∧ code ≠ 0 := by
  rcases h with ⟨_, rfl⟩ | ⟨_, _, rfl⟩ | ⟨_, _, _, rfl⟩ <;> exact ⟨rfl, by decide⟩
set_option maxRecDepth 100000 in
set_option maxHeartbeats 1000000 in
theorem sc_Import_no {base : Nat} {w : World} {g : Nat} {col : Nat → Nat} {D M : List (List S25)} (h : IsS base w g col D M) (a : ByteArray) (A2 : Option Addr) (c2 : Nat) (l : List S71) (hn : M.length < 64) (code : Int) (hr : ScRef D a code) :
    Calls Try.prog 35 #[.pointer (some ⟨g, 0, none⟩), .string a, .slice A2 l.length c2] w fun e w' => e = .returned (.tuple #[.int .i64 0, .int .i64 code]) ∧ ScDone base w g col D M w' := by
  generalize l.length = q
  have HS := Aside0.mk h
  have hl := h.len
  have h0 := h
  obtain ⟨vo, vm, vs, h1, -, -, -, -, h6, -⟩ := h0
  obtain ⟨Am, cm, rfl⟩ := Kd.R_slice h6
  have c0 : w.cell? ⟨g, 1, none⟩ = some (.slice Am M.length cm) := blk_cell h1 1
  generalize hz : M.length = z at *
  have HZ := Aside0.mk hz; have HL := Aside0.mk hl
  clear h1 h6 hz hl h
  have hn2 : (z : Int) < 64 := by omega
  have hn3 : (0 : Int) ≤ (z : Int) := by omega
  have HR := Aside0.mk hr
  have hc := hr.ne
  obtain ⟨hc1, hc2⟩ := hc
  clear hn hr
  go_enter Try.func35, Try.ntmps35
  go_wp2_with (first
    | (go_at_call 11; (refine (sc_Declare_no HS.out a _ _ _ _ _ _ _ _ _ code HR.out).mono ?_; rintro e w4 ⟨rfl, hd⟩; have HD := Aside0.mk hd; clear hd)))
  go_ret2
  exact ⟨rfl, HD.out⟩
theorem sc_mcell {base : Nat} {w : World} {g z : Nat} {col : Nat → Nat} {D M : List (List S25)} (hz : M.length = z) (h : IsS base w g col D M) : ∃ A c, w.cell? ⟨g, 1, none⟩ = some (.slice A z c) := by
  obtain ⟨vo, vm, vs, h1, -, -, -, -, h6, -⟩ := h
  obtain ⟨A, c, rfl⟩ := Kd.R_slice h6
  exact ⟨A, c, by rw [← hz]; exact blk_cell h1 1⟩
theorem sc_put5 {w : World} {g : Nat} {t : TypeId} {x0 x1 x2 x3 x4 : Value} (h : w.heap[g]? = some (.cells #[x0, x1, x2, x3, x4] t (0, 0))) (y0 y1 y2 y3 y4 : Value) :
    (((((w.setCell ⟨g, 0, none⟩ y0).setCell ⟨g, 1, none⟩ y1).setCell ⟨g, 2, none⟩ y2).setCell ⟨g, 3, none⟩ y3).setCell ⟨g, 4, none⟩ y4).heap[g]? = some (.cells #[y0, y1, y2, y3, y4] t (0, 0)) := by
  have h1 := blk_put (cs' := #[y0, x1, x2, x3, x4]) h 0 y0 rfl
  have h2 := blk_put (cs' := #[y0, y1, x2, x3, x4]) h1 1 y1 rfl
  have h3 := blk_put (cs' := #[y0, y1, y2, x3, x4]) h2 2 y2 rfl
  have h4 := blk_put (cs' := #[y0, y1, y2, y3, x4]) h3 3 y3 rfl
  exact blk_put (cs' := #[y0, y1, y2, y3, y4]) h4 4 y4 rfl
theorem sc_put5b {w0 w : World} {g : Nat} (hb : Below w0.heap.size w0 w) (hg : w0.heap.size ≤ g) (y0 y1 y2 y3 y4 : Value) :
    Below w0.heap.size w0 (((((w.setCell ⟨g, 0, none⟩ y0).setCell ⟨g, 1, none⟩ y1).setCell ⟨g, 2, none⟩ y2).setCell ⟨g, 3, none⟩ y3).setCell ⟨g, 4, none⟩ y4) :=
  below_set (below_set (below_set (below_set (below_set hb hg) hg) hg) hg) hg
set_option maxRecDepth 100000 in
set_option maxHeartbeats 4000000 in
theorem sc_Import_yes {base : Nat} {w : World} {g : Nat} {col : Nat → Nat} {D M : List (List S25)} (h : IsS base w g col D M) (a : ByteArray) (A2 : Option Addr) (c2 : Nat) (l : List S71) (hF : Kd.F k71 w (fun k => col k = 0) A2 l.length l) (hlq : l.length ≤ 1048576) (hP : ∀ x ∈ l, x.f4.length < 8796093022208) (hn : M.length < 64) (hnm : a.toList.isEmpty = false ∧ a.size ≤ 32) (hix : sc_ix (D.getD (D.length - 1) []) a = -1) (hdq : (D.getD (D.length - 1) []).length < 4096) :
    Calls Try.prog 35 #[.pointer (some ⟨g, 0, none⟩), .string a, .slice A2 l.length c2] w fun e w' => e = .returned (.tuple #[.int .i64 ((M.length : Int) + 1), .int .i64 0]) ∧ ScDone base w g col (sc_put D (sc_mod a ((M.length : Int) + 1) ((D.length : Int) - 1))) (M ++ [sc_imps ((M.length : Int) + 1) l]) w' := by
  have HNM := Aside0.mk hnm; have HIX := Aside0.mk hix; have HDQ := Aside0.mk hdq; have HPP := Aside0.mk hP; have HFL := Aside0.mk hF
  generalize hq : l.length = q at *
  have HQ := Aside0.mk hq; have HLQ := Aside0.mk hlq
  clear hnm hix hdq hP hF hq hlq
  have HS := Aside0.mk h
  have hl := h.len
  have h0 := h
  obtain ⟨vo, vm, vs, h1, -, -, -, -, h6, -⟩ := h0
  obtain ⟨Am, cm, rfl⟩ := Kd.R_slice h6
  have c0 : w.cell? ⟨g, 1, none⟩ = some (.slice Am M.length cm) := blk_cell h1 1
  generalize hz : M.length = z at *
  have HZ := Aside0.mk hz; have HL := Aside0.mk hl
  clear h1 h6 hz hl h
  have hn2 : (z : Int) < 64 := by omega
  have hn3 : (0 : Int) ≤ (z : Int) := by omega
  have HNN := Aside0.mk hn
  clear hn
  go_enter Try.func35, Try.ntmps35
  go_wp2_with (go_at_call 11; (refine (sc_Declare_yes HS.out a 8 0 0 ((z : Int) + 1) 0 false none 0 0 [] rfl (Kd.C_nil _ _) ⟨Nat.le_refl _, by decide⟩ HNM.out HIX.out HDQ.out).mono ?_; rintro e w4 ⟨rfl, hd⟩; obtain ⟨col4, hI4, hK4⟩ := hd; have HI4 := Aside0.mk hI4; have HK4 := Aside0.mk hK4; have HC4 := Aside0.mk (Kd.F_now (Kd.F_step HFL.out (fun k hk hlt => hK4.keep k hlt hk))); clear hI4 hK4))
  have HB4 := Aside0.mk (Below.refl w4.heap.size w4)
  go_loopg [10, 36] (q + 1) (fun kx v10 v36 wr => ∃ (i : Nat) (A3 : Option Addr) (n3 c3 : Nat), v10 = .slice A3 n3 c3 ∧ v36 = .int .i64 i ∧ Aside0 (i + kx = q + 1 ∧ i ≤ q) ∧ Aside0 (Below w4.heap.size w4 wr) ∧ Aside0 (Kd.R k25 25 wr w4.heap.size (fun _ => True) (.slice A3 n3 c3) (sc_imps ((z : Int) + 1) (l.take i))))
  case atStart => exact ⟨0, none, 0, 0, rfl, rfl, ⟨⟨by omega, by omega⟩⟩, HB4, ⟨Kd.R_nil _ _ _ _ _⟩⟩
  case round =>
    obtain ⟨i, A3, n3, c3, rfl, rfl, HI, HB, HO⟩ := hrel
    by_cases hi : i < q
    · have hL := HLQ.out
      obtain ⟨ae, A4, c4, e, hx0, hx1, hx2, hx3, hx4, hle, hC7⟩ := at_T71 HC4.out (i : Int) (by omega) (by omega)
      cases e
      obtain ⟨x, hx⟩ : ∃ x, rd_T71 l (i : Int) = x := ⟨_, rfl⟩
      have hmem : rd_T71 l (i : Int) ∈ l := by unfold rd_T71; rw [Int.toNat_natCast, List.getD_eq_getElem?_getD, List.getElem?_eq_getElem (by rw [HQ.out]; exact hi)]; exact List.getElem_mem _
      have hpar := HPP.out _ hmem
      have htk : l.take (i + 1) = l.take i ++ [x] := by rw [List.take_succ_eq_append_getElem (by rw [HQ.out]; exact hi), ← hx]; unfold rd_T71; rw [Int.toNat_natCast, List.getD_eq_getElem?_getD, List.getElem?_eq_getElem (by rw [HQ.out]; exact hi)]; rfl
      rw [hx, Int.toNat_natCast] at hx0 hx1 hx2 hx3 hx4
      rw [hx] at hle hC7 hpar
      clear hx hmem
      obtain ⟨x0, x1, x2, x3, x4⟩ := x
      dsimp only at hx0 hx1 hx2 hx3 hx4 hle hC7 hpar
      have HF7 := Aside0.mk (show slices_ClonePar.f x4 = some x4 by unfold slices_ClonePar.f; rw [if_pos hpar])
      clear hpar
      generalize hm7 : x4.length = q4 at hx0 hx1 hx2 hx3 hx4 hle hC7
      have HX8 := Aside0.mk (And.intro hx0 (And.intro hx1 (And.intro hx2 (And.intro hx3 hx4))))
      have HC7 := Aside0.mk (And.intro hle hC7)
      have HM7 := Aside0.mk hm7
      have HTK := Aside0.mk htk
      clear hx0 hx1 hx2 hx3 hx4 hle hC7 hm7 htk
      have i1 : (0 : Int) ≤ (i : Int) := by omega
      have i2 : (i : Int) < (q : Int) := by omega
      have i3 : (i : Int) ≤ 1048576 := by omega
      have HH := Aside0.mk hi
      clear hi hL
      have z0 := pw_cell_below HB.out HX8.out.1
      have z1 := pw_cell_below HB.out HX8.out.2.1
      have z2 := pw_cell_below HB.out HX8.out.2.2.1
      have z3 := pw_cell_below HB.out HX8.out.2.2.2.1
      have z4 := pw_cell_below HB.out HX8.out.2.2.2.2
      go_wp2_with ((with_reducible refine gate_dst (N := 12) rfl ?_); refine box_event ?hg (N := 12) ?hd (cs := #[.string ⟨#[]⟩, .int .i64 0, .int .i64 0, .int .i32 0, .slice none 0 0]) (t := 71) ?hr ?_; (case hd => rfl); (case hg => rfl); (case hr => first | (go_simp; done) | (go_simp; rfl)); intro gb hgx w3 hbox hb; have HB3 := Aside0.mk hb; have HX3 := Aside0.mk hbox; have HG3 := Aside0.mk (show wr.heap.size ≤ gb from Nat.le_of_eq hgx.symm); have f0 := blk_frozen hbox 0; have b0 : w3.cell? ⟨gb, 0, none⟩ = some _ := blk_cell hbox 0; have f1 := blk_frozen hbox 1; have b1 : w3.cell? ⟨gb, 1, none⟩ = some _ := blk_cell hbox 1; have f2 := blk_frozen hbox 2; have b2 : w3.cell? ⟨gb, 2, none⟩ = some _ := blk_cell hbox 2; have f3 := blk_frozen hbox 3; have b3 : w3.cell? ⟨gb, 3, none⟩ = some _ := blk_cell hbox 3; have f4 := blk_frozen hbox 4; have b4 : w3.cell? ⟨gb, 4, none⟩ = some _ := blk_cell hbox 4; clear hgx hbox hb)
      obtain ⟨W5, hW5⟩ : ∃ W5, (((((w3.setCell ⟨gb, 0, none⟩ (.string x0)).setCell ⟨gb, 1, none⟩ (.int .i64 x1)).setCell ⟨gb, 2, none⟩ (.int .i64 x2)).setCell ⟨gb, 3, none⟩ (.int .i32 x3)).setCell ⟨gb, 4, none⟩ (.slice A4 q4 c4)) = W5 := ⟨_, rfl⟩
      have HX5 := Aside0.mk (show W5.heap[gb]? = some (.cells #[.string x0, .int .i64 x1, .int .i64 x2, .int .i32 x3, .slice A4 q4 c4] 71 (0, 0)) by rw [← hW5]; exact sc_put5 HX3.out _ _ _ _ _)
      have hb5 : Below wr.heap.size wr W5 := by rw [← hW5]; exact sc_put5b HB3.out HG3.out _ _ _ _ _
      have HB5 := Aside0.mk (below_step HB.out hb5)
      have HO5 := Aside0.mk (Kd.R_below HO.out hb5)
      rw [hW5]
      clear hW5 hb5 HX3 HB3 f0 b0 z0 f1 b1 z1 f2 b2 z2 f3 b3 z3 f4 b4 z4
      refine wp_region_held_drew (S := fun w' => w'.cell? ⟨gb, 0, none⟩ = some (.string x0) ∧ w'.cell? ⟨gb, 1, none⟩ = some (.int .i64 x1) ∧ w'.cell? ⟨gb, 2, none⟩ = some (.int .i64 x2) ∧ w'.cell? ⟨gb, 3, none⟩ = some (.int .i32 x3) ∧ w'.cell? ⟨gb, 4, none⟩ = some (.slice A4 q4 c4)) (by kernel_rfl) ⟨blk_cell (blk_drew HX5.out) 0, blk_cell (blk_drew HX5.out) 1, blk_cell (blk_drew HX5.out) 2, blk_cell (blk_drew HX5.out) 3, blk_cell (blk_drew HX5.out) 4⟩ (fun hHeld => ?_)
      refine C.tk_take (i := 0) (v := ?_) (by kernel_rfl) (by kernel_rfl) (by kernel_rfl) (fun oi hoi => ?_) rfl
      rotate_left
      simp only [List.getElem?_toArray, List.getElem?_cons_succ, List.getElem?_cons_zero] at hoi
      cases hoi
      refine ⟨fun _ _ _ h => h, Or.inl ⟨by rfl, ?_⟩, by assumption, ?_⟩
      · (intro w hSw; (try dsimp only at hSw); go_simp; all_goals with_reducible rfl)
      try simp only [Act.put, List.setIfInBounds_toArray, List.set_cons_zero, List.set_cons_succ]
      refine C.tk_take (i := 1) (v := ?_) (by kernel_rfl) (by kernel_rfl) (by kernel_rfl) (fun oi hoi => ?_) rfl
      rotate_left
      simp only [List.getElem?_toArray, List.getElem?_cons_succ, List.getElem?_cons_zero] at hoi
      cases hoi
      refine ⟨fun _ _ _ h => h, Or.inl ⟨by rfl, ?_⟩, by assumption, ?_⟩
      · (intro w hSw; (try dsimp only at hSw); go_simp; all_goals with_reducible rfl)
      try simp only [Act.put, List.setIfInBounds_toArray, List.set_cons_zero, List.set_cons_succ]
      refine C.tk_take (i := 2) (v := ?_) (by kernel_rfl) (by kernel_rfl) (by kernel_rfl) (fun oi hoi => ?_) rfl
      rotate_left
      simp only [List.getElem?_toArray, List.getElem?_cons_succ, List.getElem?_cons_zero] at hoi
      cases hoi
      refine ⟨fun _ _ _ h => h, Or.inl ⟨by rfl, ?_⟩, by assumption, ?_⟩
      · (intro w hSw; (try dsimp only at hSw); go_simp; all_goals with_reducible rfl)
      try simp only [Act.put, List.setIfInBounds_toArray, List.set_cons_zero, List.set_cons_succ]
      refine C.tk_take (i := 3) (v := ?_) (by kernel_rfl) (by kernel_rfl) (by kernel_rfl) (fun oi hoi => ?_) rfl
      rotate_left
      simp only [List.getElem?_toArray, List.getElem?_cons_succ, List.getElem?_cons_zero] at hoi
      cases hoi
      refine ⟨fun _ _ _ h => h, Or.inl ⟨by rfl, ?_⟩, by assumption, ?_⟩
      · (intro w hSw; (try dsimp only at hSw); go_simp; all_goals with_reducible rfl)
      try simp only [Act.put, List.setIfInBounds_toArray, List.set_cons_zero, List.set_cons_succ]
      refine C.tk_take (i := 4) (v := ?_) (by kernel_rfl) (by kernel_rfl) (by kernel_rfl) (fun oi hoi => ?_) rfl
      rotate_left
      simp only [List.getElem?_toArray, List.getElem?_cons_succ, List.getElem?_cons_zero] at hoi
      cases hoi
      refine ⟨fun _ _ _ h => h, Or.inl ⟨by rfl, ?_⟩, by assumption, ?_⟩
      · (intro w hSw; (try dsimp only at hSw); go_simp; all_goals with_reducible rfl)
      try simp only [Act.put, List.setIfInBounds_toArray, List.set_cons_zero, List.set_cons_succ]
      refine C.tk_take (i := 5) (v := ?_) (by kernel_rfl) (by kernel_rfl) (by kernel_rfl) (fun oi hoi => ?_) rfl
      rotate_left
      simp only [List.getElem?_toArray, List.getElem?_cons_succ, List.getElem?_cons_zero] at hoi
      cases hoi
      refine ⟨fun _ _ _ h => h, Or.inl ⟨by rfl, ?_⟩, by assumption, ?_⟩
      · (intro w hSw; (try dsimp only at hSw); go_simp; all_goals with_reducible rfl)
      try simp only [Act.put, List.setIfInBounds_toArray, List.set_cons_zero, List.set_cons_succ]
      refine C.tk_take (i := 6) (v := ?_) (by kernel_rfl) (by kernel_rfl) (by kernel_rfl) (fun oi hoi => ?_) rfl
      rotate_left
      simp only [List.getElem?_toArray, List.getElem?_cons_succ, List.getElem?_cons_zero] at hoi
      cases hoi
      refine ⟨fun _ _ _ h => h, Or.inl ⟨by rfl, ?_⟩, by assumption, ?_⟩
      · (intro w hSw; (try dsimp only at hSw); go_simp; all_goals with_reducible rfl)
      try simp only [Act.put, List.setIfInBounds_toArray, List.set_cons_zero, List.set_cons_succ]
      refine C.tk_take (i := 7) (v := ?_) (by kernel_rfl) (by kernel_rfl) (by kernel_rfl) (fun oi hoi => ?_) rfl
      rotate_left
      simp only [List.getElem?_toArray, List.getElem?_cons_succ, List.getElem?_cons_zero] at hoi
      cases hoi
      refine ⟨fun _ _ _ h => h, Or.inl ⟨by rfl, ?_⟩, by assumption, ?_⟩
      · (intro w hSw; (try dsimp only at hSw); go_simp; all_goals with_reducible rfl)
      try simp only [Act.put, List.setIfInBounds_toArray, List.set_cons_zero, List.set_cons_succ]
      refine C.tk_take (i := 8) (v := ?_) (by kernel_rfl) (by kernel_rfl) (by kernel_rfl) (fun oi hoi => ?_) rfl
      rotate_left
      simp only [List.getElem?_toArray, List.getElem?_cons_succ, List.getElem?_cons_zero] at hoi
      cases hoi
      refine ⟨fun _ _ _ h => h, Or.inl ⟨by rfl, ?_⟩, by assumption, ?_⟩
      · (intro w hSw; (try dsimp only at hSw); go_simp; all_goals with_reducible rfl)
      try simp only [Act.put, List.setIfInBounds_toArray, List.set_cons_zero, List.set_cons_succ]
      refine C.tk_take (i := 9) (v := ?_) (by kernel_rfl) (by kernel_rfl) (by kernel_rfl) (fun oi hoi => ?_) rfl
      rotate_left
      simp only [List.getElem?_toArray, List.getElem?_cons_succ, List.getElem?_cons_zero] at hoi
      cases hoi
      refine ⟨fun _ _ _ h => h, Or.inl ⟨by rfl, ?_⟩, by assumption, ?_⟩
      · (intro w hSw; (try dsimp only at hSw); go_simp; all_goals with_reducible rfl)
      try simp only [Act.put, List.setIfInBounds_toArray, List.set_cons_zero, List.set_cons_succ]
      refine C.tk_take (i := 10) (v := ?_) (by kernel_rfl) (by kernel_rfl) (by kernel_rfl) (fun oi hoi => ?_) rfl
      rotate_left
      simp only [List.getElem?_toArray, List.getElem?_cons_succ, List.getElem?_cons_zero] at hoi
      cases hoi
      refine ⟨fun _ _ _ h => h, Or.inl ⟨by rfl, ?_⟩, by assumption, ?_⟩
      · (intro w hSw; (try dsimp only at hSw); go_simp; all_goals with_reducible rfl)
      try simp only [Act.put, List.setIfInBounds_toArray, List.set_cons_zero, List.set_cons_succ]
      refine C.tk_take (i := 11) (v := ?_) (by kernel_rfl) (by kernel_rfl) (by kernel_rfl) (fun oi hoi => ?_) rfl
      rotate_left
      simp only [List.getElem?_toArray, List.getElem?_cons_succ, List.getElem?_cons_zero] at hoi
      cases hoi
      refine ⟨fun _ _ _ h => h, Or.inl ⟨by rfl, ?_⟩, by assumption, ?_⟩
      · (intro w hSw; (try dsimp only at hSw); go_simp; all_goals with_reducible rfl)
      try simp only [Act.put, List.setIfInBounds_toArray, List.set_cons_zero, List.set_cons_succ]
      refine wpAnyH_ready (rs := [12]) (by kernel_rfl) (by simp) ?_
      refine AllReadyH.cons rfl (fun K hK => ?_) AllReadyH.nil
      rw [if_pos (by rfl)]
      go_simp
      go_at_call 26
      rw [← HM7.out]
      refine (slices_ClonePar.calls A4 c4 x4 x4 _ (Kd.C_below (Kd.C_below (show Kd.C k69 w4 A4 x4.length x4 by rw [HM7.out]; exact HC7.out.2) HB5.out) (below_drew (Below.refl _ _))) (HM7.out ▸ HC7.out.1) HF7.out).mono ?_
      rintro e w6 ⟨v7, rfl, ho, hb⟩
      obtain ⟨A8, n8, c8, rfl⟩ := R_slc ho
      have hb6 := below_step (below_drew (Below.refl W5.heap.size W5)) hb
      have HB6 := Aside0.mk (below_step HB5.out hb6)
      have HX6 := Aside0.mk (blk_below HX5.out hb6)
      have HP6 := Aside0.mk ho
      have HO6 := Aside0.mk (Kd.R_below HO5.out hb6)
      have HZ6 := Aside0.mk (show w4.heap.size ≤ W5.drew.heap.size from HB5.out.size)
      have hS6 : w6.cell? ⟨gb, 0, none⟩ = some (.string x0) ∧ w6.cell? ⟨gb, 1, none⟩ = some (.int .i64 x1) ∧ w6.cell? ⟨gb, 2, none⟩ = some (.int .i64 x2) ∧ w6.cell? ⟨gb, 3, none⟩ = some (.int .i32 x3) ∧ w6.cell? ⟨gb, 4, none⟩ = some (.slice A4 q4 c4) := ⟨blk_cell HX6.out 0, blk_cell HX6.out 1, blk_cell HX6.out 2, blk_cell HX6.out 3, blk_cell HX6.out 4⟩
      clear hb hb6 ho
      try rw [HM7.out]
      go_wp2
      refine hK.out _ _ hS6 (fun hHeld => ?_)
      clear hK
      try simp only [Act.put, List.setIfInBounds_toArray, List.set_cons_zero, List.set_cons_succ]
      refine C.tk_take (i := 13) (v := ?_) (by kernel_rfl) (by kernel_rfl) (by kernel_rfl) (fun oi hoi => ?_) rfl
      rotate_left
      simp only [List.getElem?_toArray, List.getElem?_cons_succ, List.getElem?_cons_zero] at hoi
      cases hoi
      refine ⟨fun _ _ _ h => h, Or.inl ⟨by rfl, ?_⟩, by assumption, ?_⟩
      · (intro w hSw; (try dsimp only at hSw); go_simp; all_goals with_reducible rfl)
      try simp only [Act.put, List.setIfInBounds_toArray, List.set_cons_zero, List.set_cons_succ]
      refine wpAnyH_ready (rs := [14]) (by kernel_rfl) (by simp) ?_
      refine AllReadyH.cons rfl (fun K hK => ?_) AllReadyH.nil
      rw [if_pos (by rfl)]
      go_simp
      refine hK.out _ _ ⟨pw_cell_below (below_alloc (Below.refl _ _) _) (hS6.1), pw_cell_below (below_alloc (Below.refl _ _) _) (hS6.2.1), pw_cell_below (below_alloc (Below.refl _ _) _) (hS6.2.2.1), pw_cell_below (below_alloc (Below.refl _ _) _) (hS6.2.2.2.1), pw_cell_below (below_alloc (Below.refl _ _) _) (hS6.2.2.2.2)⟩ (fun hHeld => ?_)
      clear hK
      try simp only [Act.put, List.setIfInBounds_toArray, List.set_cons_zero, List.set_cons_succ]
      refine wpAnyH_ready (rs := [15]) (by kernel_rfl) (by simp) ?_
      refine AllReadyH.cons rfl (fun K hK => ?_) AllReadyH.nil
      refine Kd.R_append_step k25 (w0 := w4) (W := w6) w4.heap.size (by rfl) (.tmp 40) (.tmp 54) 66 25 (.agg #[(.string ⟨#[]⟩), (.int .i64 0), (.int .i64 0), (.int .i64 0), (.int .i32 0), (.int .i64 0), (.bool false), (.slice none 0 0)]) 88 rfl Try.underlying66 sc_info25 rfl (by decide) (by decide) (.slice A3 n3 c3) (sc_imps ((z : Int) + 1) (l.take i)) (⟨x0, x1, x2, 0, x3, (z : Int) + 1, false, x4⟩ : S25) [.string x0, .int .i64 x1, .int .i64 x2, .int .i64 0, .int .i32 x3, .int .i64 ((z : Int) + 1), .bool false, .slice A8 n8 c8] (fun _ => True) (fun k => w4.heap.size ≤ k ∧ some k ≠ (Value.slice A3 n3 c3).ownBlock) (by first | rfl | (simp [Act.eval, Act.put]; done)) (by first | rfl | (simp [Act.eval, Act.put]; done)) (k25_mkM _ _ _ (⟨x0, x1, x2, 0, x3, (z : Int) + 1, false, x4⟩ : S25) (Kd.R_mono (Kd.R_bound (Kd.R_lower (Kd.R_mono (Kd.R_bound HP6.out) (fun k hk => (⟨Nat.le_trans HZ6.out hk.2.1, fun e => by have := Kd.R_lt HO5.out k e.symm; have h2 := hk.2.1; have h3 : W5.heap.size ≤ k := h2; omega⟩ : w4.heap.size ≤ k ∧ some k ≠ (Value.slice A3 n3 c3).ownBlock))) HZ6.out)) (fun k hk => hk.1))) (fun _ hk => ⟨trivial, hk.2⟩) (fun _ _ => trivial) HO6.out HB6.out HB6.out.size (by rw [sc_imps_len, List.length_take]; have := HQ.out; have := HLQ.out; omega) ?_
      intro v1 w1 ho hb hg hat
      obtain ⟨A1, n1, c1, rfl⟩ := R_slc ho
      have HO1 := Aside0.mk ho
      have HB1 := Aside0.mk hb
      have hx1 := blk_grown HX6.out hg (Kd.R_ne HO6.out HX6.out (by decide))
      have hS1 : w1.cell? ⟨gb, 0, none⟩ = some (.string x0) ∧ w1.cell? ⟨gb, 1, none⟩ = some (.int .i64 x1) ∧ w1.cell? ⟨gb, 2, none⟩ = some (.int .i64 x2) ∧ w1.cell? ⟨gb, 3, none⟩ = some (.int .i32 x3) ∧ w1.cell? ⟨gb, 4, none⟩ = some (.slice A4 q4 c4) := ⟨blk_cell hx1 0, blk_cell hx1 1, blk_cell hx1 2, blk_cell hx1 3, blk_cell hx1 4⟩
      clear ho hb hg hat hx1
      refine hK.out _ _ hS1 (fun hHeld => ?_)
      clear hK
      try simp only [Act.put, List.setIfInBounds_toArray, List.set_cons_zero, List.set_cons_succ]
      refine C.tk_take (i := 16) (v := ?_) (by kernel_rfl) (by kernel_rfl) (by kernel_rfl) (fun oi hoi => ?_) rfl
      rotate_left
      simp only [List.getElem?_toArray, List.getElem?_cons_succ, List.getElem?_cons_zero] at hoi
      cases hoi
      refine ⟨fun _ _ _ h => h, Or.inl ⟨by rfl, ?_⟩, by assumption, ?_⟩
      · (intro w hSw; (try dsimp only at hSw); go_simp; all_goals with_reducible rfl)
      try simp only [Act.put, List.setIfInBounds_toArray, List.set_cons_zero, List.set_cons_succ]
      refine wpAnyH_done (by kernel_rfl) ?_ _
      go_wp2
      go_roundg (q - i)
      case measure => have := HI.out; have := HH.out; omega
      case rel => exact ⟨i + 1, A1, n1, c1, rfl, by first | rfl | (simp; done), ⟨by have := HI.out; have := HH.out; omega⟩, HB1, ⟨by rw [HTK.out]; unfold sc_imps; rw [List.map_append]; exact HO1.out⟩⟩
    · have i2 : decide ((i : Int) < (q : Int)) = false := decide_eq_false (by omega)
      have hiq : i = q := by have := HI.out; omega
      subst hiq
      have HRr := Aside0.mk (show Kd.R k25 25 wr w4.heap.size (fun _ => True) (.slice A3 n3 c3) (sc_imps ((z : Int) + 1) l) by have h := HO.out; rw [List.take_of_length_le (Nat.le_of_eq HQ.out)] at h; exact h)
      obtain ⟨vo4, vm4, vs4, g1, g2, g3, g4, g5, g6, g7, g8⟩ := HI4.out
      obtain ⟨Am4, cm4, rfl⟩ := Kd.R_slice g6
      rw [HZ.out] at g1 g6
      have c14 : wr.cell? ⟨g, 1, none⟩ = some (.slice Am4 z cm4) := blk_cell (blk_below g1 HB.out) 1
      have f14 := blk_frozen (blk_below g1 HB.out) 1
      have HBB := Aside0.mk (show base ≤ w4.heap.size by have := HI4.out.base; omega)
      have H14 := Aside0.mk (blk_below g1 HB.out); have H2 := Aside0.mk g2; have H3 := Aside0.mk g3; have H4 := Aside0.mk g4; have H5 := Aside0.mk g5; have H64 := Aside0.mk g6; have H7 := Aside0.mk g7; have H8 := Aside0.mk g8
      have HM64 := Aside0.mk (show ∀ k, (Value.slice Am4 z cm4).ownBlock = some k → k < w4.heap.size from fun k hk => (g7 k (by have e : col4 k = 3 := g6.1 k hk; omega)).2)
      clear g1 g2 g3 g4 g5 g6 g7 g8
      go_wp2_with ((with_reducible refine gate_builtin (b := .append) (xs := #[.tmp 61, .tmp 63]) rfl ?_); at_builtin; (refine Kd.R_append (Kd.slice 25 k25) (w0 := w4) (W := wr) base rfl (.tmp 61) (.tmp 63) 62 66 (.slice none 0 0) 24 rfl Try.underlying62 sc_info66 rfl (by show 0 < 1; decide) (by decide) (.slice Am4 z cm4) M (sc_imps ((z : Int) + 1) l) [.slice A3 n3 c3] (OkC col4 w4.heap.size 3 3) (fun k => w4.heap.size ≤ k ∧ some k ≠ (Value.slice Am4 z cm4).ownBlock) rfl rfl ?aP ?aK ?aF ?aO ?aB ?aS ?aL ?_; (case aP => exact ⟨_, rfl, Kd.R_mono (Kd.R_bound (Kd.R_lower (Kd.R_mono (Kd.R_bound HRr.out) (fun k hk => (⟨hk.2.1, fun e => by have := HM64.out k e.symm; have h2 := hk.2.1; omega⟩ : w4.heap.size ≤ k ∧ some k ≠ (Value.slice Am4 z cm4).ownBlock))) HBB.out)) (fun k hk => hk.1)⟩); (case aK => exact fun k hk => ⟨.inr ⟨rfl, hk.1⟩, hk.2⟩); (case aF => exact fun k hk => .inr ⟨rfl, Nat.le_trans HB.out.size hk⟩); (case aO => exact Kd.R_mono (Kd.R_below H64.out HB.out) (fun k hk => .inl hk)); (case aB => exact HB.out.mono HBB.out); (case aS => exact Nat.le_trans HBB.out HB.out.size); (case aL => have h1 := HZ.out; have h2 := HNN.out; rw [h1]; omega); intro v1 w1 ho hb hg hat; obtain ⟨A1, n1, c1, rfl⟩ := R_slc ho; have hk1 := blk_grown H14.out hg (Kd.R_ne (Kd.R_below H64.out HB.out) H14.out (by decide)); have HK1 := Aside0.mk hk1; have c11 : w1.cell? ⟨g, 1, none⟩ = some (.slice Am4 z cm4) := blk_cell hk1 1; have f11 := blk_frozen hk1 1; have HO1 := Aside0.mk ho; have HBW1 := Aside0.mk hb; have HG1 := Aside0.mk hg; clear hk1 ho hb hg hat))
      go_ret2
      have hkept : Kept w4 (w1.setCell ⟨g, 1, none⟩ (.slice A1 n1 c1)) (fun k => Cs [1, 3] (col4 k)) :=
        Kept.setCell (Kept.of_grown HG1.out (Kept.of_below HB.out _) (fun k hk => .inl (by have e : col4 k = 3 := H64.out.1 k hk; rw [e]; decide))) (.inl (by show Cs [1, 3] (col4 g); rw [H2.out]; decide)) _
      have hgb := HI4.out.base
      refine ⟨rfl, recol col4 w4.heap.size (w1.setCell ⟨g, 1, none⟩ (.slice A1 n1 c1)).heap.size 3, ?_, HK4.out.trans (recol_ScK (S := Cs [1, 3]) (HBW1.out.setCell (p := ⟨g, 1, none⟩) hgb.1 _) hkept (by decide))⟩
      refine ⟨vo4, .slice A1 n1 c1, vs4, blk_put HK1.out 1 _ rfl, ?_, recol_R0 H7.out (by decide) H3.out hkept (by decide), H4.out, fun i x d hx hd => recol_R0 H7.out (by omega) (H5.out i x d hx hd) hkept (by simp [Cs]; omega), recol_R H7.out (by decide) (Kd.R_set HO1.out HK1.out (by decide) 1 _), recol_hcol H7.out HBB.out hkept.1, ?_⟩
      · rw [recol_old hgb.2]; exact H2.out
      · have h8 := H8.out
        refine ⟨h8.1, h8.2.1, ?_, h8.2.2.2⟩
        rw [List.length_append, List.length_singleton]
        have h1 := HZ.out; have h2 := HNN.out; omega

end Go.Proofs.Ytkgjpelddncfdaa.P

-- Written by a program of this session (wip/tools/hp.py) out of the translation.
import Derived.Test.YtkgjpelddncfdaaPx0
import Derived.Test.YtkgjpelddncfdaaPx8
import Derived.Test.YtkgjpelddncfdaaPx9
import Derived.Test.YtkgjpelddncfdaaPx13
import Derived.Test.YtkgjpelddncfdaaPx21
import Derived.Test.YtkgjpelddncfdaaPx24
import Derived.Test.YtkgjpelddncfdaaPx26
import Derived.Test.YtkgjpelddncfdaaPx28
namespace Go.Proofs.Ytkgjpelddncfdaa.P
open Go.RowKit Go.Proofs.YtkgjpelddncfdaaW.PrintWords Go.Proofs.YtkgjpelddncfdaaW.PrintLast Go.Proofs.YtkgjpelddncfdaaW.PrintMore
attribute [local go_sem] max2_int min2_int max_two min_two max_three min_three max_four min_four   -- for this text's walks alone
set_option linter.unusedVariables false
set_option linter.unusedSimpArgs false

/-! ### pascalinelaw11_ScopePlays: function 4 -/
theorem sp_par_l (l : List S69) (hl : l.length ≤ 9223372036854775807) (d : Nat) : ∀ (k i : Nat), i ≤ l.length → l.length - i = d → d < k → pascalineref11_Params.l0 k l l (i : Int) = some true := by
  induction d with
  | zero =>
    intro k i hi hd hk
    obtain ⟨k, rfl⟩ : ∃ m, k = m + 1 := ⟨k - 1, by omega⟩
    simp only [pascalineref11_Params.l0]
    rw [if_neg (by omega)]
  | succ d ih =>
    intro k i hi hd hk
    obtain ⟨k, rfl⟩ : ∃ m, k = m + 1 := ⟨k - 1, by omega⟩
    simp only [pascalineref11_Params.l0]
    rw [if_pos (by omega), if_pos (by omega), if_pos (by omega), if_neg (by simp), show wrap64 ((i : Int) + 1) = ((i + 1 : Nat) : Int) by unfold wrap64; omega]
    exact ih k (i + 1) (by omega) (by omega) (by omega)
theorem sp_par (l : List S69) (hl : l.length ≤ 9223372036854775807) (k : Nat) (hk : l.length < k) : pascalineref11_Params.f k l l = some true := by
  unfold pascalineref11_Params.f
  rw [if_pos rfl]
  exact sp_par_l l hl l.length k 0 (by omega) (by omega) hk
theorem sp_put5 {w : World} {g : Nat} {t : TypeId} {x0 x1 x2 x3 x4 : Value} (h : w.heap[g]? = some (.cells #[x0, x1, x2, x3, x4] t (0, 0))) (y0 y1 y2 y3 y4 : Value) :
    (((((w.setCell ⟨g, 0, none⟩ y0).setCell ⟨g, 1, none⟩ y1).setCell ⟨g, 2, none⟩ y2).setCell ⟨g, 3, none⟩ y3).setCell ⟨g, 4, none⟩ y4).heap[g]? = some (.cells #[y0, y1, y2, y3, y4] t (0, 0)) := by
  have h1 := blk_put (cs' := #[y0, x1, x2, x3, x4]) h 0 y0 rfl
  have h2 := blk_put (cs' := #[y0, y1, x2, x3, x4]) h1 1 y1 rfl
  have h3 := blk_put (cs' := #[y0, y1, y2, x3, x4]) h2 2 y2 rfl
  have h4 := blk_put (cs' := #[y0, y1, y2, y3, x4]) h3 3 y3 rfl
  exact blk_put (cs' := #[y0, y1, y2, y3, y4]) h4 4 y4 rfl
theorem sp_put5b {w0 w : World} {g : Nat} (hb : Below w0.heap.size w0 w) (hg : w0.heap.size ≤ g) (y0 y1 y2 y3 y4 : Value) :
    Below w0.heap.size w0 (((((w.setCell ⟨g, 0, none⟩ y0).setCell ⟨g, 1, none⟩ y1).setCell ⟨g, 2, none⟩ y2).setCell ⟨g, 3, none⟩ y3).setCell ⟨g, 4, none⟩ y4) :=
  below_set (below_set (below_set (below_set (below_set hb hg) hg) hg) hg) hg
theorem sp_far5 {w : World} {g k : Nat} {o : Obj} (h : w.heap[k]? = some o) (hne : k ≠ g) (y0 y1 y2 y3 y4 : Value) : (((((w.setCell ⟨g, 0, none⟩ y0).setCell ⟨g, 1, none⟩ y1).setCell ⟨g, 2, none⟩ y2).setCell ⟨g, 3, none⟩ y3).setCell ⟨g, 4, none⟩ y4).heap[k]? = some o :=
  (Below.heap_setCell _ ⟨g, 4, none⟩ y4 k hne).trans ((Below.heap_setCell _ ⟨g, 3, none⟩ y3 k hne).trans ((Below.heap_setCell _ ⟨g, 2, none⟩ y2 k hne).trans ((Below.heap_setCell _ ⟨g, 1, none⟩ y1 k hne).trans ((Below.heap_setCell _ ⟨g, 0, none⟩ y0 k hne).trans h))))
set_option maxRecDepth 100000 in
set_option maxHeartbeats 8000000 in
theorem sc_Same_calls (w : World) (A : Option Addr) (c : Nat) (B : Option Addr) (d : Nat) (l : List S71) (h0 : Kd.C k71 w A l.length l) (h0c : l.length ≤ c) (h1 : Kd.C k71 w B l.length l) (h1c : l.length ≤ d) :
    Calls Try.prog 13 #[.slice A l.length c, .slice B l.length d] w fun e w' => e = .returned (.bool true) ∧ Below w.heap.size w w' := by
  have HC := Aside0.mk h0; have HD := Aside0.mk h1
  have hmx := Kd.C_max h0
  have HMX := Aside0.mk hmx
  have HB0 := Aside0.mk (Below.refl w.heap.size w)
  clear h0 h1 hmx
  go_enter Try.func13, Try.ntmps13
  go_wp2
  go_loopg [5] (l.length + 1) (fun kx v5 wr => ∃ i : Nat, v5 = .int .i64 i ∧ Aside0 (i + kx = l.length + 1 ∧ i ≤ l.length) ∧ Aside0 (Below w.heap.size w wr))
  case atStart => exact ⟨0, rfl, ⟨⟨by omega, by omega⟩⟩, HB0⟩
  case round =>
    obtain ⟨i, rfl, HI, HB⟩ := hrel
    by_cases hi : i < l.length
    · have hmx := HMX.out
      obtain ⟨ad, A4, c4, e, hx0, hx1, hx2, hx3, hx4, hl4, hC4⟩ := at_T71 HC.out (i : Int) (by omega) (by omega)
      obtain ⟨be, B4, d4, e', hy0, hy1, hy2, hy3, hy4, hm4, hD4⟩ := at_T71 HD.out (i : Int) (by omega) (by omega)
      cases e
      cases e'
      obtain ⟨x, hx⟩ : ∃ x, rd_T71 l (i : Int) = x := ⟨_, rfl⟩
      rw [hx, Int.toNat_natCast] at hx0 hx1 hx2 hx3 hx4 hy0 hy1 hy2 hy3 hy4
      rw [hx] at hl4 hC4 hm4 hD4
      clear hx
      obtain ⟨x0, x1, x2, x3, x4⟩ := x
      dsimp only at hx0 hx1 hx2 hx3 hx4 hy0 hy1 hy2 hy3 hy4 hl4 hC4 hm4 hD4
      have HEL := Aside0.mk (And.intro hx0 (And.intro hx1 (And.intro hx2 (And.intro hx3 (And.intro hx4 (And.intro hy0 (And.intro hy1 (And.intro hy2 (And.intro hy3 hy4)))))))))
      have HPA := Aside0.mk (And.intro (And.intro hl4 hC4) (And.intro hm4 hD4))
      clear hx0 hx1 hx2 hx3 hx4 hy0 hy1 hy2 hy3 hy4 hl4 hC4 hm4 hD4
      have i1 : (0 : Int) ≤ (i : Int) := by omega
      have i2 : (i : Int) < (l.length : Int) := by omega
      have i2b : decide (i < l.length) = true := decide_eq_true hi
      have i3 : (i : Int) ≤ 9223372036854775806 := by omega
      have HH := Aside0.mk hi
      clear hi hmx
      go_wp2
      refine wp_region_held_drew (S := fun w' => w'.cell? (ad.add (i * 5)) = some (.string x0) ∧ w'.cell? ⟨(ad.add (i * 5)).block, (ad.add (i * 5)).off + 1, none⟩ = some (.int .i64 x1) ∧ w'.cell? ⟨(ad.add (i * 5)).block, (ad.add (i * 5)).off + 2, none⟩ = some (.int .i64 x2) ∧ w'.cell? ⟨(ad.add (i * 5)).block, (ad.add (i * 5)).off + 3, none⟩ = some (.int .i32 x3) ∧ w'.cell? ⟨(ad.add (i * 5)).block, (ad.add (i * 5)).off + 4, none⟩ = some (.slice A4 x4.length c4) ∧ w'.cell? (be.add (i * 5)) = some (.string x0) ∧ w'.cell? ⟨(be.add (i * 5)).block, (be.add (i * 5)).off + 1, none⟩ = some (.int .i64 x1) ∧ w'.cell? ⟨(be.add (i * 5)).block, (be.add (i * 5)).off + 2, none⟩ = some (.int .i64 x2) ∧ w'.cell? ⟨(be.add (i * 5)).block, (be.add (i * 5)).off + 3, none⟩ = some (.int .i32 x3) ∧ w'.cell? ⟨(be.add (i * 5)).block, (be.add (i * 5)).off + 4, none⟩ = some (.slice B4 x4.length d4)) (by kernel_rfl) (show wr.drew.cell? (ad.add (i * 5)) = some (.string x0) ∧ wr.drew.cell? ⟨(ad.add (i * 5)).block, (ad.add (i * 5)).off + 1, none⟩ = some (.int .i64 x1) ∧ wr.drew.cell? ⟨(ad.add (i * 5)).block, (ad.add (i * 5)).off + 2, none⟩ = some (.int .i64 x2) ∧ wr.drew.cell? ⟨(ad.add (i * 5)).block, (ad.add (i * 5)).off + 3, none⟩ = some (.int .i32 x3) ∧ wr.drew.cell? ⟨(ad.add (i * 5)).block, (ad.add (i * 5)).off + 4, none⟩ = some (.slice A4 x4.length c4) ∧ wr.drew.cell? (be.add (i * 5)) = some (.string x0) ∧ wr.drew.cell? ⟨(be.add (i * 5)).block, (be.add (i * 5)).off + 1, none⟩ = some (.int .i64 x1) ∧ wr.drew.cell? ⟨(be.add (i * 5)).block, (be.add (i * 5)).off + 2, none⟩ = some (.int .i64 x2) ∧ wr.drew.cell? ⟨(be.add (i * 5)).block, (be.add (i * 5)).off + 3, none⟩ = some (.int .i32 x3) ∧ wr.drew.cell? ⟨(be.add (i * 5)).block, (be.add (i * 5)).off + 4, none⟩ = some (.slice B4 x4.length d4) from ⟨pw_cell_below (below_drew HB.out) HEL.out.1, pw_cell_below (below_drew HB.out) HEL.out.2.1, pw_cell_below (below_drew HB.out) HEL.out.2.2.1, pw_cell_below (below_drew HB.out) HEL.out.2.2.2.1, pw_cell_below (below_drew HB.out) HEL.out.2.2.2.2.1, pw_cell_below (below_drew HB.out) HEL.out.2.2.2.2.2.1, pw_cell_below (below_drew HB.out) HEL.out.2.2.2.2.2.2.1, pw_cell_below (below_drew HB.out) HEL.out.2.2.2.2.2.2.2.1, pw_cell_below (below_drew HB.out) HEL.out.2.2.2.2.2.2.2.2.1, pw_cell_below (below_drew HB.out) HEL.out.2.2.2.2.2.2.2.2.2⟩) (fun hHeld => ?_)
      refine C.tk_take (i := 0) (v := ?_) (by kernel_rfl) (by kernel_rfl) (by kernel_rfl) (fun oi hoi => ?_) rfl
      rotate_left
      simp only [List.getElem?_toArray, List.getElem?_cons_succ, List.getElem?_cons_zero] at hoi
      cases hoi
      refine ⟨fun _ _ _ h => h, Or.inl ⟨by rfl, ?_⟩, by assumption, ?_⟩
      · (intro w hSw; (try dsimp only at hSw); go_simp; all_goals with_reducible rfl)
      try simp only [Act.put, List.setIfInBounds_toArray, List.set_cons_zero, List.set_cons_succ]
      refine C.tk_take (i := 1) (v := ?_) (by kernel_rfl) (by kernel_rfl) (by kernel_rfl) (fun oi hoi => ?_) rfl
      rotate_left
      simp only [List.getElem?_toArray, List.getElem?_cons_succ, List.getElem?_cons_zero] at hoi
      cases hoi
      refine ⟨fun _ _ _ h => h, Or.inl ⟨by rfl, ?_⟩, by assumption, ?_⟩
      · (intro w hSw; (try dsimp only at hSw); go_simp; all_goals with_reducible rfl)
      try simp only [Act.put, List.setIfInBounds_toArray, List.set_cons_zero, List.set_cons_succ]
      refine C.tk_take (i := 2) (v := ?_) (by kernel_rfl) (by kernel_rfl) (by kernel_rfl) (fun oi hoi => ?_) rfl
      rotate_left
      simp only [List.getElem?_toArray, List.getElem?_cons_succ, List.getElem?_cons_zero] at hoi
      cases hoi
      refine ⟨fun _ _ _ h => h, Or.inl ⟨by rfl, ?_⟩, by assumption, ?_⟩
      · (intro w hSw; (try dsimp only at hSw); go_simp; all_goals with_reducible rfl)
      try simp only [Act.put, List.setIfInBounds_toArray, List.set_cons_zero, List.set_cons_succ]
      refine C.tk_take (i := 3) (v := ?_) (by kernel_rfl) (by kernel_rfl) (by kernel_rfl) (fun oi hoi => ?_) rfl
      rotate_left
      simp only [List.getElem?_toArray, List.getElem?_cons_succ, List.getElem?_cons_zero] at hoi
      cases hoi
      refine ⟨fun _ _ _ h => h, Or.inl ⟨by rfl, ?_⟩, by assumption, ?_⟩
      · (intro w hSw; (try dsimp only at hSw); go_simp; all_goals with_reducible rfl)
      try simp only [Act.put, List.setIfInBounds_toArray, List.set_cons_zero, List.set_cons_succ]
      refine C.tk_take (i := 4) (v := ?_) (by kernel_rfl) (by kernel_rfl) (by kernel_rfl) (fun oi hoi => ?_) rfl
      rotate_left
      simp only [List.getElem?_toArray, List.getElem?_cons_succ, List.getElem?_cons_zero] at hoi
      cases hoi
      refine ⟨fun _ _ _ h => h, Or.inl ⟨by rfl, ?_⟩, by assumption, ?_⟩
      · (intro w hSw; (try dsimp only at hSw); go_simp; all_goals with_reducible rfl)
      try simp only [Act.put, List.setIfInBounds_toArray, List.set_cons_zero, List.set_cons_succ]
      refine C.tk_take (i := 5) (v := ?_) (by kernel_rfl) (by kernel_rfl) (by kernel_rfl) (fun oi hoi => ?_) rfl
      rotate_left
      simp only [List.getElem?_toArray, List.getElem?_cons_succ, List.getElem?_cons_zero] at hoi
      cases hoi
      refine ⟨fun _ _ _ h => h, Or.inl ⟨by rfl, ?_⟩, by assumption, ?_⟩
      · (intro w hSw; (try dsimp only at hSw); go_simp; all_goals with_reducible rfl)
      try simp only [Act.put, List.setIfInBounds_toArray, List.set_cons_zero, List.set_cons_succ]
      refine C.tk_take (i := 6) (v := ?_) (by kernel_rfl) (by kernel_rfl) (by kernel_rfl) (fun oi hoi => ?_) rfl
      rotate_left
      simp only [List.getElem?_toArray, List.getElem?_cons_succ, List.getElem?_cons_zero] at hoi
      cases hoi
      refine ⟨fun _ _ _ h => h, Or.inl ⟨by rfl, ?_⟩, by assumption, ?_⟩
      · (intro w hSw; (try dsimp only at hSw); go_simp; all_goals with_reducible rfl)
      try simp only [Act.put, List.setIfInBounds_toArray, List.set_cons_zero, List.set_cons_succ]
      refine C.tk_take (i := 7) (v := ?_) (by kernel_rfl) (by kernel_rfl) (by kernel_rfl) (fun oi hoi => ?_) rfl
      rotate_left
      simp only [List.getElem?_toArray, List.getElem?_cons_succ, List.getElem?_cons_zero] at hoi
      cases hoi
      refine ⟨fun _ _ _ h => h, Or.inl ⟨by rfl, ?_⟩, by assumption, ?_⟩
      · (intro w hSw; (try dsimp only at hSw); go_simp; all_goals with_reducible rfl)
      try simp only [Act.put, List.setIfInBounds_toArray, List.set_cons_zero, List.set_cons_succ]
      refine wpAnyH_ready (rs := [8, 9]) (by kernel_rfl) (by simp) ?_
      refine AllReadyH.cons rfl (fun K hK => ?_) (AllReadyH.cons rfl (fun K hK => ?_) AllReadyH.nil)
      · rw [if_pos (by rfl)]
        go_simp
        refine hK.out _ _ ⟨pw_cell_below (below_alloc (below_drew HB.out) _) HEL.out.1, pw_cell_below (below_alloc (below_drew HB.out) _) HEL.out.2.1, pw_cell_below (below_alloc (below_drew HB.out) _) HEL.out.2.2.1, pw_cell_below (below_alloc (below_drew HB.out) _) HEL.out.2.2.2.1, pw_cell_below (below_alloc (below_drew HB.out) _) HEL.out.2.2.2.2.1, pw_cell_below (below_alloc (below_drew HB.out) _) HEL.out.2.2.2.2.2.1, pw_cell_below (below_alloc (below_drew HB.out) _) HEL.out.2.2.2.2.2.2.1, pw_cell_below (below_alloc (below_drew HB.out) _) HEL.out.2.2.2.2.2.2.2.1, pw_cell_below (below_alloc (below_drew HB.out) _) HEL.out.2.2.2.2.2.2.2.2.1, pw_cell_below (below_alloc (below_drew HB.out) _) HEL.out.2.2.2.2.2.2.2.2.2⟩ (fun hHeld => ?_)
        clear hK
        try simp only [Act.put, List.setIfInBounds_toArray, List.set_cons_zero, List.set_cons_succ]
        obtain ⟨b6, hbk⟩ : ∃ b, b = wr.heap.size := ⟨_, rfl⟩
        obtain ⟨v0, hwk⟩ : ∃ W : World, W = (wr.alloc (.cells #[.string ⟨#[]⟩, .int .i64 0, .int .i64 0, .int .i32 0, .slice none 0 0] 71)).drew := ⟨_, rfl⟩
        have hbw : Below wr.drew.heap.size wr.drew v0 := by rw [hwk]; exact (show Below wr.drew.heap.size wr.drew (wr.drew.alloc (.cells #[.string ⟨#[]⟩, .int .i64 0, .int .i64 0, .int .i32 0, .slice none 0 0] 71)) from below_alloc (Below.refl _ _) _)
        have hx : v0.heap[b6]? = some (.cells #[.string ⟨#[]⟩, .int .i64 0, .int .i64 0, .int .i32 0, .slice none 0 0] 71 (0, 0)) := by rw [hwk, hbk]; exact blk_new wr _
        have HY0 := Aside0.mk (below_step (below_drew HB.out) hbw)
        have HG6 := Aside0.mk (show w.heap.size ≤ b6 by rw [hbk]; exact (below_drew HB.out).size)
        have HX6_0 := Aside0.mk hx
        clear hHeld
        rw [← hwk, ← hbk]
        clear hbw hwk hbk hx
        refine wpAnyH_ready (rs := [9]) (by kernel_rfl) (by simp) ?_
        refine AllReadyH.cons rfl (fun K hK => ?_) AllReadyH.nil
        rw [if_pos (by rfl)]
        go_simp
        refine hK.out _ _ ⟨pw_cell_below (below_alloc HY0.out _) HEL.out.1, pw_cell_below (below_alloc HY0.out _) HEL.out.2.1, pw_cell_below (below_alloc HY0.out _) HEL.out.2.2.1, pw_cell_below (below_alloc HY0.out _) HEL.out.2.2.2.1, pw_cell_below (below_alloc HY0.out _) HEL.out.2.2.2.2.1, pw_cell_below (below_alloc HY0.out _) HEL.out.2.2.2.2.2.1, pw_cell_below (below_alloc HY0.out _) HEL.out.2.2.2.2.2.2.1, pw_cell_below (below_alloc HY0.out _) HEL.out.2.2.2.2.2.2.2.1, pw_cell_below (below_alloc HY0.out _) HEL.out.2.2.2.2.2.2.2.2.1, pw_cell_below (below_alloc HY0.out _) HEL.out.2.2.2.2.2.2.2.2.2⟩ (fun hHeld => ?_)
        clear hK
        try simp only [Act.put, List.setIfInBounds_toArray, List.set_cons_zero, List.set_cons_succ]
        obtain ⟨b7, hbk⟩ : ∃ b, b = v0.heap.size := ⟨_, rfl⟩
        obtain ⟨v1, hwk⟩ : ∃ W' : World, W' = v0.alloc (.cells #[.string ⟨#[]⟩, .int .i64 0, .int .i64 0, .int .i32 0, .slice none 0 0] 71) := ⟨_, rfl⟩
        have hbw : Below v0.heap.size v0 v1 := by rw [hwk]; exact below_alloc (Below.refl _ _) _
        have hx : v1.heap[b7]? = some (.cells #[.string ⟨#[]⟩, .int .i64 0, .int .i64 0, .int .i32 0, .slice none 0 0] 71 (0, 0)) := by rw [hwk, hbk]; exact blk_new _ _
        have HY1 := Aside0.mk (below_step HY0.out hbw)
        have HG7 := Aside0.mk (show w.heap.size ≤ b7 by rw [hbk]; exact HY0.out.size)
        have HX7_1 := Aside0.mk hx
        have HX6_1 := Aside0.mk (blk_below HX6_0.out hbw)
        have N67 := Aside0.mk (show b6 ≠ b7 from fun e => by have h1 := blk_lt HX6_0.out; omega)
        have N76 := Aside0.mk (Ne.symm N67.out)
        clear hHeld
        rw [← hwk, ← hbk]
        clear hbw hwk hbk hx
        refine wpAnyH_ready (rs := [10]) (by kernel_rfl) (by simp) ?_
        refine AllReadyH.cons rfl (fun K hK => ?_) AllReadyH.nil
        have p0 : v1.cell? ⟨b6, 0, none⟩ = some _ := blk_cell HX6_1.out 0
        have p1 : v1.cell? ⟨b6, 1, none⟩ = some _ := blk_cell HX6_1.out 1
        have p2 : v1.cell? ⟨b6, 2, none⟩ = some _ := blk_cell HX6_1.out 2
        have p3 : v1.cell? ⟨b6, 3, none⟩ = some _ := blk_cell HX6_1.out 3
        have p4 : v1.cell? ⟨b6, 4, none⟩ = some _ := blk_cell HX6_1.out 4
        have f0 := blk_frozen HX6_1.out 0
        have f1 := blk_frozen HX6_1.out 1
        have f2 := blk_frozen HX6_1.out 2
        have f3 := blk_frozen HX6_1.out 3
        have f4 := blk_frozen HX6_1.out 4
        rw [if_pos (by rfl)]
        go_simp
        refine hK.out _ _ ⟨pw_cell_below (sp_put5b HY1.out HG6.out _ _ _ _ _) HEL.out.1, pw_cell_below (sp_put5b HY1.out HG6.out _ _ _ _ _) HEL.out.2.1, pw_cell_below (sp_put5b HY1.out HG6.out _ _ _ _ _) HEL.out.2.2.1, pw_cell_below (sp_put5b HY1.out HG6.out _ _ _ _ _) HEL.out.2.2.2.1, pw_cell_below (sp_put5b HY1.out HG6.out _ _ _ _ _) HEL.out.2.2.2.2.1, pw_cell_below (sp_put5b HY1.out HG6.out _ _ _ _ _) HEL.out.2.2.2.2.2.1, pw_cell_below (sp_put5b HY1.out HG6.out _ _ _ _ _) HEL.out.2.2.2.2.2.2.1, pw_cell_below (sp_put5b HY1.out HG6.out _ _ _ _ _) HEL.out.2.2.2.2.2.2.2.1, pw_cell_below (sp_put5b HY1.out HG6.out _ _ _ _ _) HEL.out.2.2.2.2.2.2.2.2.1, pw_cell_below (sp_put5b HY1.out HG6.out _ _ _ _ _) HEL.out.2.2.2.2.2.2.2.2.2⟩ (fun hHeld => ?_)
        clear hK hHeld p0 p1 p2 p3 p4 f0 f1 f2 f3 f4
        try simp only [Act.put, List.setIfInBounds_toArray, List.set_cons_zero, List.set_cons_succ]
        obtain ⟨v2, hwk⟩ : ∃ W' : World, (((((v1.setCell ⟨b6, 0, none⟩ (.string x0)).setCell ⟨b6, 1, none⟩ (.int .i64 x1)).setCell ⟨b6, 2, none⟩ (.int .i64 x2)).setCell ⟨b6, 3, none⟩ (.int .i32 x3)).setCell ⟨b6, 4, none⟩ (.slice A4 x4.length c4)) = W' := ⟨_, rfl⟩
        have hx := sp_put5 HX6_1.out (.string x0) (.int .i64 x1) (.int .i64 x2) (.int .i32 x3) (.slice A4 x4.length c4)
        rw [hwk] at hx
        have HX6_2 := Aside0.mk hx
        have hb := sp_put5b HY1.out HG6.out (.string x0) (.int .i64 x1) (.int .i64 x2) (.int .i32 x3) (.slice A4 x4.length c4)
        rw [hwk] at hb
        have HY2 := Aside0.mk hb
        have hy := sp_far5 HX7_1.out N76.out (.string x0) (.int .i64 x1) (.int .i64 x2) (.int .i32 x3) (.slice A4 x4.length c4)
        rw [hwk] at hy
        have HX7_2 := Aside0.mk hy
        clear hy
        rw [hwk]
        clear hwk hx hb
        refine wpAnyH_ready (rs := [11]) (by kernel_rfl) (by simp) ?_
        refine AllReadyH.cons rfl (fun K hK => ?_) AllReadyH.nil
        have p0 : v2.cell? ⟨b7, 0, none⟩ = some _ := blk_cell HX7_2.out 0
        have p1 : v2.cell? ⟨b7, 1, none⟩ = some _ := blk_cell HX7_2.out 1
        have p2 : v2.cell? ⟨b7, 2, none⟩ = some _ := blk_cell HX7_2.out 2
        have p3 : v2.cell? ⟨b7, 3, none⟩ = some _ := blk_cell HX7_2.out 3
        have p4 : v2.cell? ⟨b7, 4, none⟩ = some _ := blk_cell HX7_2.out 4
        have f0 := blk_frozen HX7_2.out 0
        have f1 := blk_frozen HX7_2.out 1
        have f2 := blk_frozen HX7_2.out 2
        have f3 := blk_frozen HX7_2.out 3
        have f4 := blk_frozen HX7_2.out 4
        rw [if_pos (by rfl)]
        go_simp
        refine hK.out _ _ ⟨pw_cell_below (sp_put5b HY2.out HG7.out _ _ _ _ _) HEL.out.1, pw_cell_below (sp_put5b HY2.out HG7.out _ _ _ _ _) HEL.out.2.1, pw_cell_below (sp_put5b HY2.out HG7.out _ _ _ _ _) HEL.out.2.2.1, pw_cell_below (sp_put5b HY2.out HG7.out _ _ _ _ _) HEL.out.2.2.2.1, pw_cell_below (sp_put5b HY2.out HG7.out _ _ _ _ _) HEL.out.2.2.2.2.1, pw_cell_below (sp_put5b HY2.out HG7.out _ _ _ _ _) HEL.out.2.2.2.2.2.1, pw_cell_below (sp_put5b HY2.out HG7.out _ _ _ _ _) HEL.out.2.2.2.2.2.2.1, pw_cell_below (sp_put5b HY2.out HG7.out _ _ _ _ _) HEL.out.2.2.2.2.2.2.2.1, pw_cell_below (sp_put5b HY2.out HG7.out _ _ _ _ _) HEL.out.2.2.2.2.2.2.2.2.1, pw_cell_below (sp_put5b HY2.out HG7.out _ _ _ _ _) HEL.out.2.2.2.2.2.2.2.2.2⟩ (fun hHeld => ?_)
        clear hK hHeld p0 p1 p2 p3 p4 f0 f1 f2 f3 f4
        try simp only [Act.put, List.setIfInBounds_toArray, List.set_cons_zero, List.set_cons_succ]
        obtain ⟨v3, hwk⟩ : ∃ W' : World, (((((v2.setCell ⟨b7, 0, none⟩ (.string x0)).setCell ⟨b7, 1, none⟩ (.int .i64 x1)).setCell ⟨b7, 2, none⟩ (.int .i64 x2)).setCell ⟨b7, 3, none⟩ (.int .i32 x3)).setCell ⟨b7, 4, none⟩ (.slice B4 x4.length d4)) = W' := ⟨_, rfl⟩
        have hx := sp_put5 HX7_2.out (.string x0) (.int .i64 x1) (.int .i64 x2) (.int .i32 x3) (.slice B4 x4.length d4)
        rw [hwk] at hx
        have HX7_3 := Aside0.mk hx
        have hb := sp_put5b HY2.out HG7.out (.string x0) (.int .i64 x1) (.int .i64 x2) (.int .i32 x3) (.slice B4 x4.length d4)
        rw [hwk] at hb
        have HY3 := Aside0.mk hb
        have hy := sp_far5 HX6_2.out N67.out (.string x0) (.int .i64 x1) (.int .i64 x2) (.int .i32 x3) (.slice B4 x4.length d4)
        rw [hwk] at hy
        have HX6_3 := Aside0.mk hy
        clear hy
        rw [hwk]
        clear hwk hx hb
        refine wpAnyH_done (by kernel_rfl) ?_ _
        have u0 : v3.cell? ⟨b6, 0, none⟩ = some (.string x0) := blk_cell HX6_3.out 0
        have u1 : v3.cell? ⟨b6, 1, none⟩ = some (.int .i64 x1) := blk_cell HX6_3.out 1
        have u2 : v3.cell? ⟨b6, 2, none⟩ = some (.int .i64 x2) := blk_cell HX6_3.out 2
        have u3 : v3.cell? ⟨b6, 3, none⟩ = some (.int .i32 x3) := blk_cell HX6_3.out 3
        have u4 : v3.cell? ⟨b6, 4, none⟩ = some (.slice A4 x4.length c4) := blk_cell HX6_3.out 4
        have q0 : v3.cell? ⟨b7, 0, none⟩ = some (.string x0) := blk_cell HX7_3.out 0
        have q1 : v3.cell? ⟨b7, 1, none⟩ = some (.int .i64 x1) := blk_cell HX7_3.out 1
        have q2 : v3.cell? ⟨b7, 2, none⟩ = some (.int .i64 x2) := blk_cell HX7_3.out 2
        have q3 : v3.cell? ⟨b7, 3, none⟩ = some (.int .i32 x3) := blk_cell HX7_3.out 3
        have q4 : v3.cell? ⟨b7, 4, none⟩ = some (.slice B4 x4.length d4) := blk_cell HX7_3.out 4
        go_wp2_with (go_at_call 27; refine (pascalineref11_Params.calls (x4.length + 1) A4 c4 x4 B4 d4 x4 true _ (Kd.C_below HPA.out.1.2 HY3.out) HPA.out.1.1 (Kd.C_below HPA.out.2.2 HY3.out) HPA.out.2.1 (sp_par x4 (Kd.C_max HPA.out.1.2) _ (Nat.lt_succ_self _))).mono ?_; rintro e wp ⟨rfl, hb⟩; have HBP := Aside0.mk (below_step HY3.out hb.below); clear hb u0 u1 u2 u3 u4 q0 q1 q2 q3 q4)
        go_roundg (l.length - i)
        case measure => have := HI.out; have := HH.out; omega
        case rel => exact ⟨i + 1, (by first | rfl | (simp; done)), ⟨by have := HI.out; have := HH.out; omega⟩, HBP⟩
      · rw [if_pos (by rfl)]
        go_simp
        refine hK.out _ _ ⟨pw_cell_below (below_alloc (below_drew HB.out) _) HEL.out.1, pw_cell_below (below_alloc (below_drew HB.out) _) HEL.out.2.1, pw_cell_below (below_alloc (below_drew HB.out) _) HEL.out.2.2.1, pw_cell_below (below_alloc (below_drew HB.out) _) HEL.out.2.2.2.1, pw_cell_below (below_alloc (below_drew HB.out) _) HEL.out.2.2.2.2.1, pw_cell_below (below_alloc (below_drew HB.out) _) HEL.out.2.2.2.2.2.1, pw_cell_below (below_alloc (below_drew HB.out) _) HEL.out.2.2.2.2.2.2.1, pw_cell_below (below_alloc (below_drew HB.out) _) HEL.out.2.2.2.2.2.2.2.1, pw_cell_below (below_alloc (below_drew HB.out) _) HEL.out.2.2.2.2.2.2.2.2.1, pw_cell_below (below_alloc (below_drew HB.out) _) HEL.out.2.2.2.2.2.2.2.2.2⟩ (fun hHeld => ?_)
        clear hK
        try simp only [Act.put, List.setIfInBounds_toArray, List.set_cons_zero, List.set_cons_succ]
        obtain ⟨b7, hbk⟩ : ∃ b, b = wr.heap.size := ⟨_, rfl⟩
        obtain ⟨v4, hwk⟩ : ∃ W : World, W = (wr.alloc (.cells #[.string ⟨#[]⟩, .int .i64 0, .int .i64 0, .int .i32 0, .slice none 0 0] 71)).drew := ⟨_, rfl⟩
        have hbw : Below wr.drew.heap.size wr.drew v4 := by rw [hwk]; exact (show Below wr.drew.heap.size wr.drew (wr.drew.alloc (.cells #[.string ⟨#[]⟩, .int .i64 0, .int .i64 0, .int .i32 0, .slice none 0 0] 71)) from below_alloc (Below.refl _ _) _)
        have hx : v4.heap[b7]? = some (.cells #[.string ⟨#[]⟩, .int .i64 0, .int .i64 0, .int .i32 0, .slice none 0 0] 71 (0, 0)) := by rw [hwk, hbk]; exact blk_new wr _
        have HY4 := Aside0.mk (below_step (below_drew HB.out) hbw)
        have HG7 := Aside0.mk (show w.heap.size ≤ b7 by rw [hbk]; exact (below_drew HB.out).size)
        have HX7_4 := Aside0.mk hx
        clear hHeld
        rw [← hwk, ← hbk]
        clear hbw hwk hbk hx
        refine wpAnyH_ready (rs := [8]) (by kernel_rfl) (by simp) ?_
        refine AllReadyH.cons rfl (fun K hK => ?_) AllReadyH.nil
        rw [if_pos (by rfl)]
        go_simp
        refine hK.out _ _ ⟨pw_cell_below (below_alloc HY4.out _) HEL.out.1, pw_cell_below (below_alloc HY4.out _) HEL.out.2.1, pw_cell_below (below_alloc HY4.out _) HEL.out.2.2.1, pw_cell_below (below_alloc HY4.out _) HEL.out.2.2.2.1, pw_cell_below (below_alloc HY4.out _) HEL.out.2.2.2.2.1, pw_cell_below (below_alloc HY4.out _) HEL.out.2.2.2.2.2.1, pw_cell_below (below_alloc HY4.out _) HEL.out.2.2.2.2.2.2.1, pw_cell_below (below_alloc HY4.out _) HEL.out.2.2.2.2.2.2.2.1, pw_cell_below (below_alloc HY4.out _) HEL.out.2.2.2.2.2.2.2.2.1, pw_cell_below (below_alloc HY4.out _) HEL.out.2.2.2.2.2.2.2.2.2⟩ (fun hHeld => ?_)
        clear hK
        try simp only [Act.put, List.setIfInBounds_toArray, List.set_cons_zero, List.set_cons_succ]
        obtain ⟨b6, hbk⟩ : ∃ b, b = v4.heap.size := ⟨_, rfl⟩
        obtain ⟨v5, hwk⟩ : ∃ W' : World, W' = v4.alloc (.cells #[.string ⟨#[]⟩, .int .i64 0, .int .i64 0, .int .i32 0, .slice none 0 0] 71) := ⟨_, rfl⟩
        have hbw : Below v4.heap.size v4 v5 := by rw [hwk]; exact below_alloc (Below.refl _ _) _
        have hx : v5.heap[b6]? = some (.cells #[.string ⟨#[]⟩, .int .i64 0, .int .i64 0, .int .i32 0, .slice none 0 0] 71 (0, 0)) := by rw [hwk, hbk]; exact blk_new _ _
        have HY5 := Aside0.mk (below_step HY4.out hbw)
        have HG6 := Aside0.mk (show w.heap.size ≤ b6 by rw [hbk]; exact HY4.out.size)
        have HX6_5 := Aside0.mk hx
        have HX7_5 := Aside0.mk (blk_below HX7_4.out hbw)
        have N76 := Aside0.mk (show b7 ≠ b6 from fun e => by have h1 := blk_lt HX7_4.out; omega)
        have N67 := Aside0.mk (Ne.symm N76.out)
        clear hHeld
        rw [← hwk, ← hbk]
        clear hbw hwk hbk hx
        refine wpAnyH_ready (rs := [10]) (by kernel_rfl) (by simp) ?_
        refine AllReadyH.cons rfl (fun K hK => ?_) AllReadyH.nil
        have p0 : v5.cell? ⟨b6, 0, none⟩ = some _ := blk_cell HX6_5.out 0
        have p1 : v5.cell? ⟨b6, 1, none⟩ = some _ := blk_cell HX6_5.out 1
        have p2 : v5.cell? ⟨b6, 2, none⟩ = some _ := blk_cell HX6_5.out 2
        have p3 : v5.cell? ⟨b6, 3, none⟩ = some _ := blk_cell HX6_5.out 3
        have p4 : v5.cell? ⟨b6, 4, none⟩ = some _ := blk_cell HX6_5.out 4
        have f0 := blk_frozen HX6_5.out 0
        have f1 := blk_frozen HX6_5.out 1
        have f2 := blk_frozen HX6_5.out 2
        have f3 := blk_frozen HX6_5.out 3
        have f4 := blk_frozen HX6_5.out 4
        rw [if_pos (by rfl)]
        go_simp
        refine hK.out _ _ ⟨pw_cell_below (sp_put5b HY5.out HG6.out _ _ _ _ _) HEL.out.1, pw_cell_below (sp_put5b HY5.out HG6.out _ _ _ _ _) HEL.out.2.1, pw_cell_below (sp_put5b HY5.out HG6.out _ _ _ _ _) HEL.out.2.2.1, pw_cell_below (sp_put5b HY5.out HG6.out _ _ _ _ _) HEL.out.2.2.2.1, pw_cell_below (sp_put5b HY5.out HG6.out _ _ _ _ _) HEL.out.2.2.2.2.1, pw_cell_below (sp_put5b HY5.out HG6.out _ _ _ _ _) HEL.out.2.2.2.2.2.1, pw_cell_below (sp_put5b HY5.out HG6.out _ _ _ _ _) HEL.out.2.2.2.2.2.2.1, pw_cell_below (sp_put5b HY5.out HG6.out _ _ _ _ _) HEL.out.2.2.2.2.2.2.2.1, pw_cell_below (sp_put5b HY5.out HG6.out _ _ _ _ _) HEL.out.2.2.2.2.2.2.2.2.1, pw_cell_below (sp_put5b HY5.out HG6.out _ _ _ _ _) HEL.out.2.2.2.2.2.2.2.2.2⟩ (fun hHeld => ?_)
        clear hK hHeld p0 p1 p2 p3 p4 f0 f1 f2 f3 f4
        try simp only [Act.put, List.setIfInBounds_toArray, List.set_cons_zero, List.set_cons_succ]
        obtain ⟨v6, hwk⟩ : ∃ W' : World, (((((v5.setCell ⟨b6, 0, none⟩ (.string x0)).setCell ⟨b6, 1, none⟩ (.int .i64 x1)).setCell ⟨b6, 2, none⟩ (.int .i64 x2)).setCell ⟨b6, 3, none⟩ (.int .i32 x3)).setCell ⟨b6, 4, none⟩ (.slice A4 x4.length c4)) = W' := ⟨_, rfl⟩
        have hx := sp_put5 HX6_5.out (.string x0) (.int .i64 x1) (.int .i64 x2) (.int .i32 x3) (.slice A4 x4.length c4)
        rw [hwk] at hx
        have HX6_6 := Aside0.mk hx
        have hb := sp_put5b HY5.out HG6.out (.string x0) (.int .i64 x1) (.int .i64 x2) (.int .i32 x3) (.slice A4 x4.length c4)
        rw [hwk] at hb
        have HY6 := Aside0.mk hb
        have hy := sp_far5 HX7_5.out N76.out (.string x0) (.int .i64 x1) (.int .i64 x2) (.int .i32 x3) (.slice A4 x4.length c4)
        rw [hwk] at hy
        have HX7_6 := Aside0.mk hy
        clear hy
        rw [hwk]
        clear hwk hx hb
        refine wpAnyH_ready (rs := [11]) (by kernel_rfl) (by simp) ?_
        refine AllReadyH.cons rfl (fun K hK => ?_) AllReadyH.nil
        have p0 : v6.cell? ⟨b7, 0, none⟩ = some _ := blk_cell HX7_6.out 0
        have p1 : v6.cell? ⟨b7, 1, none⟩ = some _ := blk_cell HX7_6.out 1
        have p2 : v6.cell? ⟨b7, 2, none⟩ = some _ := blk_cell HX7_6.out 2
        have p3 : v6.cell? ⟨b7, 3, none⟩ = some _ := blk_cell HX7_6.out 3
        have p4 : v6.cell? ⟨b7, 4, none⟩ = some _ := blk_cell HX7_6.out 4
        have f0 := blk_frozen HX7_6.out 0
        have f1 := blk_frozen HX7_6.out 1
        have f2 := blk_frozen HX7_6.out 2
        have f3 := blk_frozen HX7_6.out 3
        have f4 := blk_frozen HX7_6.out 4
        rw [if_pos (by rfl)]
        go_simp
        refine hK.out _ _ ⟨pw_cell_below (sp_put5b HY6.out HG7.out _ _ _ _ _) HEL.out.1, pw_cell_below (sp_put5b HY6.out HG7.out _ _ _ _ _) HEL.out.2.1, pw_cell_below (sp_put5b HY6.out HG7.out _ _ _ _ _) HEL.out.2.2.1, pw_cell_below (sp_put5b HY6.out HG7.out _ _ _ _ _) HEL.out.2.2.2.1, pw_cell_below (sp_put5b HY6.out HG7.out _ _ _ _ _) HEL.out.2.2.2.2.1, pw_cell_below (sp_put5b HY6.out HG7.out _ _ _ _ _) HEL.out.2.2.2.2.2.1, pw_cell_below (sp_put5b HY6.out HG7.out _ _ _ _ _) HEL.out.2.2.2.2.2.2.1, pw_cell_below (sp_put5b HY6.out HG7.out _ _ _ _ _) HEL.out.2.2.2.2.2.2.2.1, pw_cell_below (sp_put5b HY6.out HG7.out _ _ _ _ _) HEL.out.2.2.2.2.2.2.2.2.1, pw_cell_below (sp_put5b HY6.out HG7.out _ _ _ _ _) HEL.out.2.2.2.2.2.2.2.2.2⟩ (fun hHeld => ?_)
        clear hK hHeld p0 p1 p2 p3 p4 f0 f1 f2 f3 f4
        try simp only [Act.put, List.setIfInBounds_toArray, List.set_cons_zero, List.set_cons_succ]
        obtain ⟨v7, hwk⟩ : ∃ W' : World, (((((v6.setCell ⟨b7, 0, none⟩ (.string x0)).setCell ⟨b7, 1, none⟩ (.int .i64 x1)).setCell ⟨b7, 2, none⟩ (.int .i64 x2)).setCell ⟨b7, 3, none⟩ (.int .i32 x3)).setCell ⟨b7, 4, none⟩ (.slice B4 x4.length d4)) = W' := ⟨_, rfl⟩
        have hx := sp_put5 HX7_6.out (.string x0) (.int .i64 x1) (.int .i64 x2) (.int .i32 x3) (.slice B4 x4.length d4)
        rw [hwk] at hx
        have HX7_7 := Aside0.mk hx
        have hb := sp_put5b HY6.out HG7.out (.string x0) (.int .i64 x1) (.int .i64 x2) (.int .i32 x3) (.slice B4 x4.length d4)
        rw [hwk] at hb
        have HY7 := Aside0.mk hb
        have hy := sp_far5 HX6_6.out N67.out (.string x0) (.int .i64 x1) (.int .i64 x2) (.int .i32 x3) (.slice B4 x4.length d4)
        rw [hwk] at hy
        have HX6_7 := Aside0.mk hy
        clear hy
        rw [hwk]
        clear hwk hx hb
        refine wpAnyH_done (by kernel_rfl) ?_ _
        have u0 : v7.cell? ⟨b6, 0, none⟩ = some (.string x0) := blk_cell HX6_7.out 0
        have u1 : v7.cell? ⟨b6, 1, none⟩ = some (.int .i64 x1) := blk_cell HX6_7.out 1
        have u2 : v7.cell? ⟨b6, 2, none⟩ = some (.int .i64 x2) := blk_cell HX6_7.out 2
        have u3 : v7.cell? ⟨b6, 3, none⟩ = some (.int .i32 x3) := blk_cell HX6_7.out 3
        have u4 : v7.cell? ⟨b6, 4, none⟩ = some (.slice A4 x4.length c4) := blk_cell HX6_7.out 4
        have q0 : v7.cell? ⟨b7, 0, none⟩ = some (.string x0) := blk_cell HX7_7.out 0
        have q1 : v7.cell? ⟨b7, 1, none⟩ = some (.int .i64 x1) := blk_cell HX7_7.out 1
        have q2 : v7.cell? ⟨b7, 2, none⟩ = some (.int .i64 x2) := blk_cell HX7_7.out 2
        have q3 : v7.cell? ⟨b7, 3, none⟩ = some (.int .i32 x3) := blk_cell HX7_7.out 3
        have q4 : v7.cell? ⟨b7, 4, none⟩ = some (.slice B4 x4.length d4) := blk_cell HX7_7.out 4
        go_wp2_with (go_at_call 27; refine (pascalineref11_Params.calls (x4.length + 1) A4 c4 x4 B4 d4 x4 true _ (Kd.C_below HPA.out.1.2 HY7.out) HPA.out.1.1 (Kd.C_below HPA.out.2.2 HY7.out) HPA.out.2.1 (sp_par x4 (Kd.C_max HPA.out.1.2) _ (Nat.lt_succ_self _))).mono ?_; rintro e wp ⟨rfl, hb⟩; have HBP := Aside0.mk (below_step HY7.out hb.below); clear hb u0 u1 u2 u3 u4 q0 q1 q2 q3 q4)
        go_roundg (l.length - i)
        case measure => have := HI.out; have := HH.out; omega
        case rel => exact ⟨i + 1, (by first | rfl | (simp; done)), ⟨by have := HI.out; have := HH.out; omega⟩, HBP⟩
    · have i2 : decide (i < l.length) = false := decide_eq_false hi
      have HH := Aside0.mk hi
      clear hi
      go_wp2
      go_ret
      exact ⟨rfl, HB.out⟩
instance (o : S57) : Decidable (SmallOp o) := by unfold SmallOp; infer_instance
/-- The row's bounds. -/
def SpOps (l : List S57) : Prop := l.length ≤ 1048576 ∧ ∀ o ∈ l, SmallOp o
instance (l : List S57) : Decidable (SpOps l) := by unfold SpOps; infer_instance
def pascalinelaw11_ScopePlays.f (l0 : List S57) : Option Bool := if SpOps l0 then some true else none
set_option maxRecDepth 100000 in
set_option maxHeartbeats 4000000 in
theorem pascalinelaw11_ScopePlays.calls (A0 : Option Addr) (c0 : Nat) (l0 : List S57) (r : Bool) (w : World) (hr0 : Kd.C k57 w A0 l0.length l0) (hc0 : l0.length ≤ c0) (h : pascalinelaw11_ScopePlays.f l0 = some r) :
    Calls Try.prog 4 #[.slice A0 l0.length c0] w fun e w' => e = .returned (.bool r) ∧ Below w.heap.size w w' := by
  unfold pascalinelaw11_ScopePlays.f at h
  by_cases hs : SpOps l0
  case neg => rw [if_neg hs] at h; cases h
  rw [if_pos hs] at h
  obtain rfl : r = true := (Option.some.inj h).symm
  have HC := Aside0.mk hr0; have HLL := Aside0.mk hs.1; have HSM := Aside0.mk hs.2
  clear hr0 hc0 h hs
  go_enter Try.func4, Try.ntmps4
  go_wp2_with (first | (go_at_call 6; refine (sc_awake_calls _).mono ?_; rintro e w1 ⟨rfl, hb⟩; have HB1 := Aside0.mk hb; clear hb) | (go_at_call 7; refine (sc_played_calls A0 c0 l0 _ (Kd.C_below HC.out HB1.out) HLL.out HSM.out).mono ?_; rintro e w7 ⟨base, g, col, D, M, L, lv, Ms, A, n, c, A', n', c', _, rfl, hS, hb⟩; have HS7 := Aside0.mk hS; have HZ7 := Aside0.mk (below_step HB1.out hb); clear hb hS HB1) | ((with_reducible refine gate_dst (N := 4) rfl ?_); refine box_event ?hg (N := 4) ?hd (cs := #[.slice none 0 0, .int .i64 0, .slice none 0 0]) (t := 31) ?hr ?_; (case hd => rfl); (case hg => rfl); (case hr => first | (go_simp; done) | (go_simp; rfl)); intro b8 hgx w8 hbox hb; have HB8 := Aside0.mk hb; have HX8 := Aside0.mk hbox; have HG8 := Aside0.mk (show w7.heap.size ≤ b8 from Nat.le_of_eq hgx.symm); have v0 : w8.cell? ⟨b8, 0, none⟩ = some (.slice none 0 0) := blk_cell hbox 0; have v1 : w8.cell? ⟨b8, 1, none⟩ = some (.int .i64 0) := blk_cell hbox 1; have v2 : w8.cell? ⟨b8, 2, none⟩ = some (.slice none 0 0) := blk_cell hbox 2; have s0 := blk_frozen hbox 0; have s1 := blk_frozen hbox 1; have s2 := blk_frozen hbox 2; clear hgx hbox hb))
  obtain ⟨W9, hW9⟩ : ∃ W9 : World, (((w8.setCell ⟨b8, 0, none⟩ (.slice A n c)).setCell ⟨b8, 1, none⟩ (.int .i64 lv)).setCell ⟨b8, 2, none⟩ (.slice A' n' c')) = W9 := ⟨_, rfl⟩
  rw [hW9]
  have hx := sc_put3 HX8.out (.slice A n c) (.int .i64 lv) (.slice A' n' c')
  rw [hW9] at hx
  have HN8 := Aside0.mk hx
  have hb := sc_put3b HB8.out HG8.out (.slice A n c) (.int .i64 lv) (.slice A' n' c')
  rw [hW9] at hb
  clear hx hW9 HX8 HB8 v0 v1 v2 s0 s1 s2
  have HZ9 := Aside0.mk (below_step HZ7.out hb)
  have hs9 := HS7.out.below hb
  clear hb HS7 HZ7
  have hn1 := (Kd.V_at hs9.vl).1
  have hn2 := (Kd.V_at hs9.vm).1
  subst hn1 hn2
  have HS9 := Aside0.mk hs9
  have HPAR := Aside0.mk (show ∀ x ∈ D.getD 0 [], x.f7.length < 8796093022208 from fun x hx => by
    have hl := hs9.is.len.1
    rw [List.getD_eq_getElem?_getD, List.getElem?_eq_getElem (by omega)] at hx
    have := hs9.par _ (List.getElem_mem _) x hx
    omega)
  clear hs9
  refine wp_region_held_drew (S := fun w' => w'.cell? ⟨b8, 0, none⟩ = some (.slice A L.length c) ∧ w'.cell? ⟨b8, 1, none⟩ = some (.int .i64 lv) ∧ w'.cell? ⟨b8, 2, none⟩ = some (.slice A' Ms.length c')) (by kernel_rfl) (show W9.drew.cell? ⟨b8, 0, none⟩ = some (.slice A L.length c) ∧ W9.drew.cell? ⟨b8, 1, none⟩ = some (.int .i64 lv) ∧ W9.drew.cell? ⟨b8, 2, none⟩ = some (.slice A' Ms.length c') from ⟨blk_cell (blk_drew HN8.out) 0, blk_cell (blk_drew HN8.out) 1, blk_cell (blk_drew HN8.out) 2⟩) (fun hHeld => ?_)
  refine C.tk_take (i := 0) (v := ?_) (by kernel_rfl) (by kernel_rfl) (by kernel_rfl) (fun oi hoi => ?_) rfl
  rotate_left
  simp only [List.getElem?_toArray, List.getElem?_cons_succ, List.getElem?_cons_zero] at hoi
  cases hoi
  refine ⟨fun _ _ _ h => h, Or.inl ⟨by rfl, ?_⟩, by assumption, ?_⟩
  · (intro w hSw; (try dsimp only at hSw); go_simp; all_goals with_reducible rfl)
  try simp only [Act.put, List.setIfInBounds_toArray, List.set_cons_zero, List.set_cons_succ]
  refine C.tk_take (i := 1) (v := ?_) (by kernel_rfl) (by kernel_rfl) (by kernel_rfl) (fun oi hoi => ?_) rfl
  rotate_left
  simp only [List.getElem?_toArray, List.getElem?_cons_succ, List.getElem?_cons_zero] at hoi
  cases hoi
  refine ⟨fun _ _ _ h => h, Or.inl ⟨by rfl, ?_⟩, by assumption, ?_⟩
  · (intro w hSw; (try dsimp only at hSw); go_simp; all_goals with_reducible rfl)
  try simp only [Act.put, List.setIfInBounds_toArray, List.set_cons_zero, List.set_cons_succ]
  refine C.tk_take (i := 2) (v := ?_) (by kernel_rfl) (by kernel_rfl) (by kernel_rfl) (fun oi hoi => ?_) rfl
  rotate_left
  simp only [List.getElem?_toArray, List.getElem?_cons_succ, List.getElem?_cons_zero] at hoi
  cases hoi
  refine ⟨fun _ _ _ h => h, Or.inl ⟨by rfl, ?_⟩, by assumption, ?_⟩
  · (intro w hSw; (try dsimp only at hSw); go_simp; all_goals with_reducible rfl)
  try simp only [Act.put, List.setIfInBounds_toArray, List.set_cons_zero, List.set_cons_succ]
  refine C.tk_take (i := 4) (v := ?_) (by kernel_rfl) (by kernel_rfl) (by kernel_rfl) (fun oi hoi => ?_) rfl
  rotate_left
  simp only [List.getElem?_toArray, List.getElem?_cons_succ, List.getElem?_cons_zero] at hoi
  cases hoi
  refine ⟨fun _ _ _ h => h, Or.inl ⟨by rfl, ?_⟩, by assumption, ?_⟩
  · (intro w hSw; (try dsimp only at hSw); go_simp; all_goals with_reducible rfl)
  try simp only [Act.put, List.setIfInBounds_toArray, List.set_cons_zero, List.set_cons_succ]
  refine wpAnyH_ready (rs := [3]) (by kernel_rfl) (by simp) ?_
  refine AllReadyH.cons rfl (fun K hK => ?_) AllReadyH.nil
  rw [if_pos (by rfl)]
  go_simp
  go_at_call 14
  refine (sc_Exports_calls (HS9.out.is.below (below_drew (Below.refl _ _))) HPAR.out).mono ?_
  rintro e wN ⟨v5, rfl, ho, hb⟩
  obtain ⟨A5, c5, rfl⟩ := Kd.R_slice ho
  have HBN := Aside0.mk (below_step (below_drew (Below.refl W9.heap.size W9)) hb)
  have HR5 := Aside0.mk ho
  have hSN : wN.cell? ⟨b8, 0, none⟩ = some (.slice A L.length c) ∧ wN.cell? ⟨b8, 1, none⟩ = some (.int .i64 lv) ∧ wN.cell? ⟨b8, 2, none⟩ = some (.slice A' Ms.length c') := ⟨blk_cell (blk_below HN8.out HBN.out) 0, blk_cell (blk_below HN8.out HBN.out) 1, blk_cell (blk_below HN8.out HBN.out) 2⟩
  clear ho hb
  go_wp2
  refine hK.out _ _ hSN (fun hHeld => ?_)
  clear hK
  try simp only [Act.put, List.setIfInBounds_toArray, List.set_cons_zero, List.set_cons_succ]
  refine wpAnyH_ready (rs := [5]) (by kernel_rfl) (by simp) ?_
  refine AllReadyH.cons rfl (fun K hK => ?_) AllReadyH.nil
  rw [if_pos (by rfl)]
  go_simp
  go_at_call 15
  refine (pascalineref11_Exports.calls 2000 (FP [] col) A c L lv A' c' Ms (sc_exports D) _ (Kd.V_below HS9.out.vl HBN.out) (Kd.C_below (Kd.V_reads' HS9.out.vm).2.2 HBN.out) (Kd.V_reads' HS9.out.vm).2.1 (by rw [rf_exports_f L (by have h1 := HS9.out.len; omega) lv Ms 2000 (by have h1 := HS9.out.len; omega), sim_exports HS9.out.sim])).mono ?_
  rintro e wM ⟨v6, rfl, ho, hb⟩
  obtain ⟨A6, c6, rfl⟩ := Kd.N_slice ho
  have HBM := Aside0.mk (below_step HBN.out hb)
  have HR6 := Aside0.mk ho
  have HR56 := Aside0.mk (Kd.R_below HR5.out hb)
  have hSM : wM.cell? ⟨b8, 0, none⟩ = some (.slice A L.length c) ∧ wM.cell? ⟨b8, 1, none⟩ = some (.int .i64 lv) ∧ wM.cell? ⟨b8, 2, none⟩ = some (.slice A' Ms.length c') := ⟨blk_cell (blk_below HN8.out HBM.out) 0, blk_cell (blk_below HN8.out HBM.out) 1, blk_cell (blk_below HN8.out HBM.out) 2⟩
  clear ho hb
  go_wp2
  refine hK.out _ _ hSM (fun hHeld => ?_)
  clear hK
  try simp only [Act.put, List.setIfInBounds_toArray, List.set_cons_zero, List.set_cons_succ]
  refine wpAnyH_ready (rs := [6]) (by kernel_rfl) (by simp) ?_
  refine AllReadyH.cons rfl (fun K hK => ?_) AllReadyH.nil
  rw [if_pos (by rfl)]
  go_simp
  go_at_call 13
  refine (sc_Same_calls _ A5 c5 A6 c6 (sc_exports D) (Kd.R_reads' HR56.out).2.2 (Kd.R_reads' HR56.out).2.1 (Kd.N_reads' HR6.out).2.2 (Kd.N_reads' HR6.out).2.1).mono ?_
  rintro e wP ⟨rfl, hd⟩
  have HBP := Aside0.mk (below_step HBM.out hd)
  have hSP : wP.cell? ⟨b8, 0, none⟩ = some (.slice A L.length c) ∧ wP.cell? ⟨b8, 1, none⟩ = some (.int .i64 lv) ∧ wP.cell? ⟨b8, 2, none⟩ = some (.slice A' Ms.length c') := ⟨blk_cell (blk_below HN8.out HBP.out) 0, blk_cell (blk_below HN8.out HBP.out) 1, blk_cell (blk_below HN8.out HBP.out) 2⟩
  clear hd
  go_wp2
  refine hK.out _ _ hSP (fun hHeld => ?_)
  clear hK
  try simp only [Act.put, List.setIfInBounds_toArray, List.set_cons_zero, List.set_cons_succ]
  refine C.tk_take (i := 7) (v := ?_) (by kernel_rfl) (by kernel_rfl) (by kernel_rfl) (fun oi hoi => ?_) rfl
  rotate_left
  simp only [List.getElem?_toArray, List.getElem?_cons_succ, List.getElem?_cons_zero] at hoi
  cases hoi
  refine ⟨fun _ _ _ h => h, Or.inl ⟨by rfl, ?_⟩, by assumption, ?_⟩
  · (intro w hSw; (try dsimp only at hSw); go_simp; all_goals with_reducible rfl)
  try simp only [Act.put, List.setIfInBounds_toArray, List.set_cons_zero, List.set_cons_succ]
  refine C.tk_take (i := 8) (v := ?_) (by kernel_rfl) (by kernel_rfl) (by kernel_rfl) (fun oi hoi => ?_) rfl
  rotate_left
  simp only [List.getElem?_toArray, List.getElem?_cons_succ, List.getElem?_cons_zero] at hoi
  cases hoi
  refine ⟨fun _ _ _ h => h, Or.inl ⟨by rfl, ?_⟩, by assumption, ?_⟩
  · (intro w hSw; (try dsimp only at hSw); go_simp; all_goals with_reducible rfl)
  try simp only [Act.put, List.setIfInBounds_toArray, List.set_cons_zero, List.set_cons_succ]
  refine wpAnyH_done (by kernel_rfl) ?_ _
  go_wp2
  go_ret
  exact ⟨rfl, below_step HZ9.out HBP.out⟩

end Go.Proofs.Ytkgjpelddncfdaa.P

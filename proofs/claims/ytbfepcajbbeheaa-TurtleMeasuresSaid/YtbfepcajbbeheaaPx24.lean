-- Written by a program of this session (wip/tools/hp.py) out of the translation.
import Derived.Test.YtbfepcajbbeheaaPx0
import Derived.Test.YtbfepcajbbeheaaPx2
import Derived.Test.YtbfepcajbbeheaaPx23
namespace Go.Proofs.Ytbfepcajbbeheaa.P
open Go.RowKit Go.Proofs.YtbfepcajbbeheaaW.PrintWords Go.Proofs.YtbfepcajbbeheaaW.PrintLast Go.Proofs.YtbfepcajbbeheaaW.PrintMore
attribute [local go_sem] max2_int min2_int max_two min_two max_three min_three max_four min_four   -- for this text's walks alone
set_option linter.unusedVariables false
set_option linter.unusedSimpArgs false

/-! ### pascalineref32_Box: function 21 -/
open Go.Proofs.Ytbfepcajbbeheaa.C
def rb_cells (b : TBx) : Array Value := #[.int .i64 b.1, .int .i64 b.2.1, .int .i64 b.2.2.1, .int .i64 b.2.2.2]
theorem rb_put01 {w0 w : World} {B bx : Nat} {a0 a1 a2 a3 m0 m1 : Value} {t : TypeId} (h : w.heap[bx]? = some (.cells #[a0, a1, a2, a3] t (0, 0))) (hB : Below B w0 w) (hle : B ≤ bx) :
    (((w.setCell ⟨bx, 0, none⟩ m0).setCell ⟨bx, 1, none⟩ m1).drew).heap[bx]? = some (.cells #[m0, m1, a2, a3] t (0, 0)) ∧ (∀ k, k ≠ bx → (((w.setCell ⟨bx, 0, none⟩ m0).setCell ⟨bx, 1, none⟩ m1).drew).heap[k]? = w.heap[k]?) ∧ Below B w0 (((w.setCell ⟨bx, 0, none⟩ m0).setCell ⟨bx, 1, none⟩ m1).drew) :=
  ⟨blk_put (blk_put h 0 m0 rfl) 1 m1 rfl, fun k hk => (Below.heap_setCell _ _ _ k hk).trans (Below.heap_setCell _ _ _ k hk), below_drew ((hB.setCell (p := ⟨bx, 0, none⟩) hle _).setCell (p := ⟨bx, 1, none⟩) hle _)⟩
theorem rb_put23 {w0 w : World} {B bx : Nat} {a0 a1 a2 a3 m0 m1 : Value} {t : TypeId} (h : w.heap[bx]? = some (.cells #[a0, a1, a2, a3] t (0, 0))) (hB : Below B w0 w) (hle : B ≤ bx) :
    (((w.setCell ⟨bx, 2, none⟩ m0).setCell ⟨bx, 3, none⟩ m1).drew).heap[bx]? = some (.cells #[a0, a1, m0, m1] t (0, 0)) ∧ (∀ k, k ≠ bx → (((w.setCell ⟨bx, 2, none⟩ m0).setCell ⟨bx, 3, none⟩ m1).drew).heap[k]? = w.heap[k]?) ∧ Below B w0 (((w.setCell ⟨bx, 2, none⟩ m0).setCell ⟨bx, 3, none⟩ m1).drew) :=
  ⟨blk_put (blk_put h 2 m0 rfl) 3 m1 rfl, fun k hk => (Below.heap_setCell _ _ _ k hk).trans (Below.heap_setCell _ _ _ k hk), below_drew ((hB.setCell (p := ⟨bx, 2, none⟩) hle _).setCell (p := ⟨bx, 3, none⟩) hle _)⟩
section
variable {P : Program} {md : Region.Mode} {ops : Array Oper} {Q : Exit → Act → World → Prop} {S : World → Prop}
theorem tk_take {i : Nat} {v : Value} {fuel : Nat} {listed : Array Bool} {a : Act} {w : World} (hs : Region.noSelect ops = true) (hf : Region.free md ops listed i = true) (hr : (Region.ready md ops listed).contains i = true)
    (h : ∀ oi, ops[i]? = some oi → (∀ c a w, Q (.panic c) (a.put oi.dst v) w → Q (.panic c) a w) ∧ YieldsIf P ops S oi v a ∧ S w ∧ wpAnyH P md ops Q S fuel (listed.setIfInBounds i true) (a.put oi.dst v) w) (hi : (ops[i]?).isSome = true) : wpAnyH P md ops Q S (fuel + 1) listed a w := by
  obtain ⟨oi, ho⟩ := Option.isSome_iff_exists.1 hi
  obtain ⟨h1, h2, h3, h4⟩ := h oi ho
  exact wpAnyH_take ho hs hf hr h1 h2 h3 h4
end
theorem rb_far {w : World} {bx nb i j : Nat} {v : Value} (h : nb ≠ bx) : (w.setCell ⟨bx, i, none⟩ v).cell? ⟨nb, j, none⟩ = w.cell? ⟨nb, j, none⟩ := World.cell?_setCell_far _ _ _ _ (fun e => h e.symm)
theorem rb_put4 {w0 w : World} {B bx : Nat} {a0 a1 a2 a3 m0 m1 m2 m3 : Value} {t : TypeId} (h : w.heap[bx]? = some (.cells #[a0, a1, a2, a3] t (0, 0))) (hB : Below B w0 w) (hle : B ≤ bx) :
    ((((w.setCell ⟨bx, 0, none⟩ m0).setCell ⟨bx, 1, none⟩ m1).setCell ⟨bx, 2, none⟩ m2).setCell ⟨bx, 3, none⟩ m3).heap[bx]? = some (.cells #[m0, m1, m2, m3] t (0, 0)) ∧ Below B w0 ((((w.setCell ⟨bx, 0, none⟩ m0).setCell ⟨bx, 1, none⟩ m1).setCell ⟨bx, 2, none⟩ m2).setCell ⟨bx, 3, none⟩ m3) :=
  ⟨blk_put (blk_put (blk_put (blk_put h 0 m0 rfl) 1 m1 rfl) 2 m2 rfl) 3 m3 rfl, (((hB.setCell (p := ⟨bx, 0, none⟩) hle _).setCell (p := ⟨bx, 1, none⟩) hle _).setCell (p := ⟨bx, 2, none⟩) hle _).setCell (p := ⟨bx, 3, none⟩) hle _⟩
theorem rb_res {P : Program} {fn : Func} {p : Tmp} {ty : TypeId} (h : fn.results = #[.cell p ty]) (tmps : Array Value) (w : World) (g : Nat) (t : TypeId) (cs : Array Value) (fr : Nat × Nat) (d : TypeDesc)
    (hp : tmps.getD p undef = .pointer (some ⟨g, 0, none⟩)) (hg : w.heap[g]? = some (.cells cs t fr))
    (hu : P.underlying ty = some d) (hd : (match d with | .struct _ | .array _ _ => true | _ => false) = true) (hi : (P.info? ty).map (·.size) = some cs.size) :
    (results fn tmps).run P w = .ok (.agg cs) w := by
  have hp' : tmps[p]?.getD undef = .pointer (some ⟨g, 0, none⟩) := by simpa using hp
  simp [results, h, hp', asAddr, run_loadVar_row w g t ty cs fr d hg hu hd hi]
theorem rb_min (b s u : Int) : min (min b s) u = if u < if s < b then s else b then u else if s < b then s else b := by
  by_cases h1 : s < b
  · rw [if_pos h1]; split <;> omega
  · rw [if_neg h1]; split <;> omega
theorem rb_max (b s u : Int) : max (max b s) u = if (if b < s then s else b) < u then u else if b < s then s else b := by
  by_cases h1 : b < s
  · rw [if_pos h1]; split <;> omega
  · rw [if_neg h1]; split <;> omega
set_option maxRecDepth 100000 in
set_option maxHeartbeats 8000000 in
theorem tu_rbox_calls (x y dx dy st : Int) (dn : Bool) (A : Option Addr) (c : Nat) (l : List S70) (w : World) (hC : Kd.C k70 w A l.length l) (hl : l.length ≤ 1000) :
    Calls Try.prog 21 #[.agg #[.int .i64 x, .int .i64 y, .int .i64 dx, .int .i64 dy, .int .i64 st, .bool dn, .slice A l.length c]] w fun e w' => e = .returned (.agg (rb_cells (tu_box l))) ∧ Below w.heap.size w w' := by
  have HC := Aside0.mk hC; have HL := Aside0.mk hl
  clear hC hl
  go_enter Try.func21, Try.ntmps21
  go_wp2
  obtain ⟨g1, g2, g3, g4⟩ := tu_start3 w (.cells #[.int .i64 x, .int .i64 y, .int .i64 dx, .int .i64 dy, .int .i64 st, .bool dn, .slice A l.length c] 28) (.cells #[.int .i64 0, .int .i64 0, .int .i64 0, .int .i64 0] 60) (.cells #[.int .i64 0, .int .i64 0, .int .i64 0, .int .i64 0] 60)
  obtain ⟨W0, hW0⟩ : ∃ W0, (((w.alloc (.cells #[.int .i64 x, .int .i64 y, .int .i64 dx, .int .i64 dy, .int .i64 st, .bool dn, .slice A l.length c] 28)).alloc (.cells #[.int .i64 0, .int .i64 0, .int .i64 0, .int .i64 0] 60)).alloc (.cells #[.int .i64 0, .int .i64 0, .int .i64 0, .int .i64 0] 60)) = W0 := ⟨_, rfl⟩
  rw [hW0] at g1 g2 g3 g4 ⊢
  have G1 := Aside0.mk g1; have G2 := Aside0.mk g2; have G3 := Aside0.mk g3; have G4 := Aside0.mk g4
  clear hW0 g1 g2 g3 g4
  go_loopg [4] (l.length + 1) (fun kx v4 wr => ∃ i : Nat, v4 = .int .i64 i ∧ Aside0 (i + kx = l.length + 1 ∧ i ≤ l.length) ∧ Aside0 (wr.heap[w.heap.size]? = some (.cells #[.int .i64 x, .int .i64 y, .int .i64 dx, .int .i64 dy, .int .i64 st, .bool dn, .slice A l.length c] 28 (0, 0)) ∧ wr.heap[w.heap.size + 1]? = some (.cells #[.int .i64 0, .int .i64 0, .int .i64 0, .int .i64 0] 60 (0, 0)) ∧ wr.heap[w.heap.size + 1 + 1]? = some (.cells #[.int .i64 (tu_box (l.take i)).1, .int .i64 (tu_box (l.take i)).2.1, .int .i64 (tu_box (l.take i)).2.2.1, .int .i64 (tu_box (l.take i)).2.2.2] 60 (0, 0)) ∧ Below w.heap.size w wr))
  case atStart => exact ⟨0, rfl, ⟨⟨by omega, by omega⟩⟩, ⟨⟨G1.out, G2.out, G3.out, G4.out⟩⟩⟩
  case round =>
    obtain ⟨i, rfl, HI, HW⟩ := hrel
    obtain ⟨h1, h2, h3, h4⟩ := HW.out
    have k6 : wr.cell? ⟨w.heap.size, 6, none⟩ = some (.slice A l.length c) := blk_cell h1 6
    by_cases hi : i < l.length
    · obtain ⟨ad, e, hr0, hr1, hr2, hr3⟩ := at_T70 HC.out (i : Int) (by omega) (by omega)
      cases e
      rw [Int.toNat_natCast] at hr0 hr1 hr2 hr3
      have er : rd_T70 l (i : Int) = l[i] := by unfold rd_T70; rw [Int.toNat_natCast]; simp [hi]
      rw [er] at hr0 hr1 hr2 hr3
      have hs := tu_box_snoc (l.take i) l[i]
      rw [← List.take_succ_eq_append_getElem hi] at hs
      generalize l[i] = sx at hr0 hr1 hr2 hr3 hs
      obtain ⟨s0, s1, s2, s3⟩ := sx
      dsimp only at hr0 hr1 hr2 hr3
      replace hr0 := pw_cell_below h4 hr0
      replace hr1 := pw_cell_below h4 hr1
      replace hr2 := pw_cell_below h4 hr2
      replace hr3 := pw_cell_below h4 hr3
      generalize tu_box (l.take i) = bb at h3 hs
      obtain ⟨b0, b1, b2, b3⟩ := bb
      dsimp only at h3
      have HS := Aside0.mk hs
      have c0 : wr.cell? ⟨w.heap.size + 1 + 1, 0, none⟩ = some (.int .i64 b0) := blk_cell h3 0
      have c1 : wr.cell? ⟨w.heap.size + 1 + 1, 1, none⟩ = some (.int .i64 b1) := blk_cell h3 1
      have c2 : wr.cell? ⟨w.heap.size + 1 + 1, 2, none⟩ = some (.int .i64 b2) := blk_cell h3 2
      have c3 : wr.cell? ⟨w.heap.size + 1 + 1, 3, none⟩ = some (.int .i64 b3) := blk_cell h3 3
      have z0 := blk_frozen h3 0
      have z1 := blk_frozen h3 1
      have z2 := blk_frozen h3 2
      have z3 := blk_frozen h3 3
      have hi1 : (i : Int) < (l.length : Int) := by omega
      have hi0 : (0 : Int) ≤ (i : Int) := by omega
      have hin : decide (i < l.length) = true := decide_eq_true hi
      have hjn : decide ((i : Int) < (l.length : Int)) = true := decide_eq_true hi1
      have hbl := blk_lt h3
      have HBL := Aside0.mk hbl
      have n1 : (w.heap.size + 1 + 1 = wr.heap.size) = False := eq_false (by omega)
      have n2 : (wr.heap.size = w.heap.size + 1 + 1) = False := eq_false (by omega)
      have H1 := Aside0.mk h1; have H2 := Aside0.mk h2; have H3 := Aside0.mk h3; have H4 := Aside0.mk h4; have HJ := Aside0.mk hi
      clear h1 h2 h3 h4 hs er hbl hi
      go_wp2
      obtain ⟨W1, hW1⟩ : ∃ W1, wr.alloc (.cells #[.int .i64 s0, .int .i64 s1, .int .i64 s2, .int .i64 s3] 70) = W1 := ⟨_, rfl⟩
      have y1 := blk_alloc H1.out (.cells #[.int .i64 s0, .int .i64 s1, .int .i64 s2, .int .i64 s3] 70)
      have y2 := blk_alloc H2.out (.cells #[.int .i64 s0, .int .i64 s1, .int .i64 s2, .int .i64 s3] 70)
      have y3 := blk_alloc H3.out (.cells #[.int .i64 s0, .int .i64 s1, .int .i64 s2, .int .i64 s3] 70)
      have y4 := below_alloc H4.out (.cells #[.int .i64 s0, .int .i64 s1, .int .i64 s2, .int .i64 s3] 70)
      have y5 := blk_new wr (.cells #[.int .i64 s0, .int .i64 s1, .int .i64 s2, .int .i64 s3] 70)
      rw [hW1] at y1 y2 y3 y4 y5 ⊢
      clear hW1 c0 c1 c2 c3 z0 z1 z2 z3 k6
      have c0 : W1.cell? ⟨w.heap.size + 1 + 1, 0, none⟩ = some (.int .i64 b0) := blk_cell y3 0
      have c1 : W1.cell? ⟨w.heap.size + 1 + 1, 1, none⟩ = some (.int .i64 b1) := blk_cell y3 1
      have z0 := blk_frozen y3 0
      have z1 := blk_frozen y3 1
      have d0 : W1.cell? ⟨wr.heap.size, 0, none⟩ = some (.int .i64 s0) := blk_cell y5 0
      have d1 : W1.cell? ⟨wr.heap.size, 1, none⟩ = some (.int .i64 s1) := blk_cell y5 1
      have d2 : W1.cell? ⟨wr.heap.size, 2, none⟩ = some (.int .i64 s2) := blk_cell y5 2
      have d3 : W1.cell? ⟨wr.heap.size, 3, none⟩ = some (.int .i64 s3) := blk_cell y5 3
      have Y1 := Aside0.mk y1; have Y2 := Aside0.mk y2; have Y3 := Aside0.mk y3; have Y4 := Aside0.mk y4; have Y5 := Aside0.mk y5
      clear y1 y2 y3 y4 y5
      have HNW := Aside0.mk (show wr.heap.size ≠ w.heap.size + 1 + 1 by have := HBL.out; omega)
      clear hi1 hi0 hin hjn n1 n2 hr0 hr1 hr2 hr3
      refine wp_region_held_drew (S := fun w' => w'.cell? ⟨wr.heap.size, 0, none⟩ = some (.int .i64 s0) ∧ w'.cell? ⟨wr.heap.size, 1, none⟩ = some (.int .i64 s1) ∧ w'.cell? ⟨wr.heap.size, 2, none⟩ = some (.int .i64 s2) ∧ w'.cell? ⟨wr.heap.size, 3, none⟩ = some (.int .i64 s3)) (by kernel_rfl) ⟨d0, d1, d2, d3⟩ (fun hHeld => ?_)
      refine tk_take (i := 0) (v := ?_) (by kernel_rfl) (by kernel_rfl) (by kernel_rfl) (fun oi hoi => ?_) rfl
      rotate_left
      simp only [List.getElem?_toArray, List.getElem?_cons_succ, List.getElem?_cons_zero] at hoi
      cases hoi
      refine ⟨fun _ _ _ h => h, Or.inl ⟨by rfl, ?_⟩, by assumption, ?_⟩
      · (intro w hSw; (try dsimp only at hSw); go_simp; all_goals with_reducible rfl)
      try simp only [Act.put, List.setIfInBounds_toArray, List.set_cons_zero, List.set_cons_succ]
      refine tk_take (i := 2) (v := ?_) (by kernel_rfl) (by kernel_rfl) (by kernel_rfl) (fun oi hoi => ?_) rfl
      rotate_left
      simp only [List.getElem?_toArray, List.getElem?_cons_succ, List.getElem?_cons_zero] at hoi
      cases hoi
      refine ⟨fun _ _ _ h => h, Or.inl ⟨by rfl, ?_⟩, by assumption, ?_⟩
      · (intro w hSw; (try dsimp only at hSw); go_simp; all_goals with_reducible rfl)
      try simp only [Act.put, List.setIfInBounds_toArray, List.set_cons_zero, List.set_cons_succ]
      refine tk_take (i := 3) (v := ?_) (by kernel_rfl) (by kernel_rfl) (by kernel_rfl) (fun oi hoi => ?_) rfl
      rotate_left
      simp only [List.getElem?_toArray, List.getElem?_cons_succ, List.getElem?_cons_zero] at hoi
      cases hoi
      refine ⟨fun _ _ _ h => h, Or.inl ⟨by rfl, ?_⟩, by assumption, ?_⟩
      · (intro w hSw; (try dsimp only at hSw); go_simp; all_goals with_reducible rfl)
      try simp only [Act.put, List.setIfInBounds_toArray, List.set_cons_zero, List.set_cons_succ]
      refine tk_take (i := 4) (v := ?_) (by kernel_rfl) (by kernel_rfl) (by kernel_rfl) (fun oi hoi => ?_) rfl
      rotate_left
      simp only [List.getElem?_toArray, List.getElem?_cons_succ, List.getElem?_cons_zero] at hoi
      cases hoi
      refine ⟨fun _ _ _ h => h, Or.inl ⟨by rfl, ?_⟩, by assumption, ?_⟩
      · (intro w hSw; (try dsimp only at hSw); go_simp; all_goals with_reducible rfl)
      try simp only [Act.put, List.setIfInBounds_toArray, List.set_cons_zero, List.set_cons_succ]
      refine tk_take (i := 5) (v := ?_) (by kernel_rfl) (by kernel_rfl) (by kernel_rfl) (fun oi hoi => ?_) rfl
      rotate_left
      simp only [List.getElem?_toArray, List.getElem?_cons_succ, List.getElem?_cons_zero] at hoi
      cases hoi
      refine ⟨fun _ _ _ h => h, Or.inl ⟨by rfl, ?_⟩, by assumption, ?_⟩
      · (intro w hSw; (try dsimp only at hSw); go_simp; all_goals with_reducible rfl)
      try simp only [Act.put, List.setIfInBounds_toArray, List.set_cons_zero, List.set_cons_succ]
      refine tk_take (i := 7) (v := ?_) (by kernel_rfl) (by kernel_rfl) (by kernel_rfl) (fun oi hoi => ?_) rfl
      rotate_left
      simp only [List.getElem?_toArray, List.getElem?_cons_succ, List.getElem?_cons_zero] at hoi
      cases hoi
      refine ⟨fun _ _ _ h => h, Or.inl ⟨by rfl, ?_⟩, by assumption, ?_⟩
      · (intro w hSw; (try dsimp only at hSw); go_simp; all_goals with_reducible rfl)
      try simp only [Act.put, List.setIfInBounds_toArray, List.set_cons_zero, List.set_cons_succ]
      refine tk_take (i := 9) (v := ?_) (by kernel_rfl) (by kernel_rfl) (by kernel_rfl) (fun oi hoi => ?_) rfl
      rotate_left
      simp only [List.getElem?_toArray, List.getElem?_cons_succ, List.getElem?_cons_zero] at hoi
      cases hoi
      refine ⟨fun _ _ _ h => h, Or.inl ⟨by rfl, ?_⟩, by assumption, ?_⟩
      · (intro w hSw; (try dsimp only at hSw); go_simp; all_goals with_reducible rfl)
      try simp only [Act.put, List.setIfInBounds_toArray, List.set_cons_zero, List.set_cons_succ]
      refine tk_take (i := 10) (v := ?_) (by kernel_rfl) (by kernel_rfl) (by kernel_rfl) (fun oi hoi => ?_) rfl
      rotate_left
      simp only [List.getElem?_toArray, List.getElem?_cons_succ, List.getElem?_cons_zero] at hoi
      cases hoi
      refine ⟨fun _ _ _ h => h, Or.inl ⟨by rfl, ?_⟩, by assumption, ?_⟩
      · (intro w hSw; (try dsimp only at hSw); go_simp; all_goals with_reducible rfl)
      try simp only [Act.put, List.setIfInBounds_toArray, List.set_cons_zero, List.set_cons_succ]
      refine tk_take (i := 11) (v := ?_) (by kernel_rfl) (by kernel_rfl) (by kernel_rfl) (fun oi hoi => ?_) rfl
      rotate_left
      simp only [List.getElem?_toArray, List.getElem?_cons_succ, List.getElem?_cons_zero] at hoi
      cases hoi
      refine ⟨fun _ _ _ h => h, Or.inl ⟨by rfl, ?_⟩, by assumption, ?_⟩
      · (intro w hSw; (try dsimp only at hSw); go_simp; all_goals with_reducible rfl)
      try simp only [Act.put, List.setIfInBounds_toArray, List.set_cons_zero, List.set_cons_succ]
      refine tk_take (i := 12) (v := ?_) (by kernel_rfl) (by kernel_rfl) (by kernel_rfl) (fun oi hoi => ?_) rfl
      rotate_left
      simp only [List.getElem?_toArray, List.getElem?_cons_succ, List.getElem?_cons_zero] at hoi
      cases hoi
      refine ⟨fun _ _ _ h => h, Or.inl ⟨by rfl, ?_⟩, by assumption, ?_⟩
      · (intro w hSw; (try dsimp only at hSw); go_simp; all_goals with_reducible rfl)
      try simp only [Act.put, List.setIfInBounds_toArray, List.set_cons_zero, List.set_cons_succ]
      refine wpAnyH_ready (rs := [1, 8]) (by kernel_rfl) (by simp) ?_
      refine AllReadyH.cons rfl (fun K hK => ?_) (AllReadyH.cons rfl (fun K hK => ?_) AllReadyH.nil)
      · rw [if_pos (by rfl)]
        go_simp
        refine hK.out _ _ (by assumption) (fun hHeld => ?_)
        clear hK
        try simp only [Act.put, List.setIfInBounds_toArray, List.set_cons_zero, List.set_cons_succ]
        refine tk_take (i := 6) (v := ?_) (by kernel_rfl) (by kernel_rfl) (by kernel_rfl) (fun oi hoi => ?_) rfl
        rotate_left
        simp only [List.getElem?_toArray, List.getElem?_cons_succ, List.getElem?_cons_zero] at hoi
        cases hoi
        refine ⟨fun _ _ _ h => h, Or.inl ⟨by rfl, ?_⟩, by assumption, ?_⟩
        · (intro w hSw; (try dsimp only at hSw); go_simp; all_goals with_reducible rfl)
        try simp only [Act.put, List.setIfInBounds_toArray, List.set_cons_zero, List.set_cons_succ]
        refine wpAnyH_ready (rs := [8]) (by kernel_rfl) (by simp) ?_
        refine AllReadyH.cons rfl (fun K hK => ?_) AllReadyH.nil
        rw [if_pos (by rfl)]
        go_simp
        refine hK.out _ _ (by assumption) (fun hHeld => ?_)
        clear hK
        try simp only [Act.put, List.setIfInBounds_toArray, List.set_cons_zero, List.set_cons_succ]
        refine tk_take (i := 13) (v := ?_) (by kernel_rfl) (by kernel_rfl) (by kernel_rfl) (fun oi hoi => ?_) rfl
        rotate_left
        simp only [List.getElem?_toArray, List.getElem?_cons_succ, List.getElem?_cons_zero] at hoi
        cases hoi
        refine ⟨fun _ _ _ h => h, Or.inl ⟨by rfl, ?_⟩, by assumption, ?_⟩
        · (intro w hSw; (try dsimp only at hSw); go_simp; all_goals with_reducible rfl)
        try simp only [Act.put, List.setIfInBounds_toArray, List.set_cons_zero, List.set_cons_succ]
        refine tk_take (i := 14) (v := ?_) (by kernel_rfl) (by kernel_rfl) (by kernel_rfl) (fun oi hoi => ?_) rfl
        rotate_left
        simp only [List.getElem?_toArray, List.getElem?_cons_succ, List.getElem?_cons_zero] at hoi
        cases hoi
        refine ⟨fun _ _ _ h => h, Or.inl ⟨by rfl, ?_⟩, by assumption, ?_⟩
        · (intro w hSw; (try dsimp only at hSw); go_simp; all_goals with_reducible rfl)
        try simp only [Act.put, List.setIfInBounds_toArray, List.set_cons_zero, List.set_cons_succ]
        refine wpAnyH_ready (rs := [15]) (by kernel_rfl) (by simp) ?_
        refine AllReadyH.cons rfl (fun K hK => ?_) AllReadyH.nil
        rw [if_pos (by rfl)]
        go_simp
        refine hK.out _ _ ⟨(rb_far HNW.out).trans d0, (rb_far HNW.out).trans d1, (rb_far HNW.out).trans d2, (rb_far HNW.out).trans d3⟩ (fun hHeld => ?_)
        clear hK
        try simp only [Act.put, List.setIfInBounds_toArray, List.set_cons_zero, List.set_cons_succ]
        refine tk_take (i := 16) (v := ?_) (by kernel_rfl) (by kernel_rfl) (by kernel_rfl) (fun oi hoi => ?_) rfl
        rotate_left
        simp only [List.getElem?_toArray, List.getElem?_cons_succ, List.getElem?_cons_zero] at hoi
        cases hoi
        refine ⟨fun _ _ _ h => h, Or.inl ⟨by rfl, ?_⟩, by assumption, ?_⟩
        · (intro w hSw; (try dsimp only at hSw); go_simp; all_goals with_reducible rfl)
        try simp only [Act.put, List.setIfInBounds_toArray, List.set_cons_zero, List.set_cons_succ]
        refine wpAnyH_ready (rs := [17]) (by kernel_rfl) (by simp) ?_
        refine AllReadyH.cons rfl (fun K hK => ?_) AllReadyH.nil
        rw [if_pos (by rfl)]
        go_simp
        refine hK.out _ _ ⟨(rb_far HNW.out).trans ((rb_far HNW.out).trans d0), (rb_far HNW.out).trans ((rb_far HNW.out).trans d1), (rb_far HNW.out).trans ((rb_far HNW.out).trans d2), (rb_far HNW.out).trans ((rb_far HNW.out).trans d3)⟩ (fun hHeld => ?_)
        clear hK
        try simp only [Act.put, List.setIfInBounds_toArray, List.set_cons_zero, List.set_cons_succ]
        refine wpAnyH_done (by kernel_rfl) ?_ _
        generalize hm0 : (if s2 < if s0 < b0 then s0 else b0 then s2 else if s0 < b0 then s0 else b0) = m0
        generalize hm1 : (if s3 < if s1 < b1 then s1 else b1 then s3 else if s1 < b1 then s1 else b1) = m1
        have HM0 := Aside0.mk (show min (min b0 s0) s2 = m0 by rw [← hm0]; exact rb_min b0 s0 s2)
        have HM1 := Aside0.mk (show min (min b1 s1) s3 = m1 by rw [← hm1]; exact rb_min b1 s1 s3)
        have P := rb_put01 (m0 := .int .i64 m0) (m1 := .int .i64 m1) Y3.out Y4.out (show w.heap.size ≤ w.heap.size + 1 + 1 by omega)
        have HN := Aside0.mk (show w.heap.size ≠ w.heap.size + 1 + 1 ∧ w.heap.size + 1 ≠ w.heap.size + 1 + 1 ∧ wr.heap.size ≠ w.heap.size + 1 + 1 by have := HBL.out; omega)
        have v1 := (P.2.1 _ HN.out.1).trans Y1.out
        have v2 := (P.2.1 _ HN.out.2.1).trans Y2.out
        have v5 := (P.2.1 _ HN.out.2.2).trans Y5.out
        have v3 := P.1
        have x4' := P.2.2
        clear P
        generalize ((W1.setCell ⟨w.heap.size + 1 + 1, 0, none⟩ (.int .i64 m0)).setCell ⟨w.heap.size + 1 + 1, 1, none⟩ (.int .i64 m1)).drew = W3 at v1 v2 v3 v5 x4' ⊢
        clear hm0 hm1 c0 c1 z0 z1 d0 d1 d2 d3
        have c0 : W3.cell? ⟨w.heap.size + 1 + 1, 2, none⟩ = some (.int .i64 b2) := blk_cell v3 2
        have c1 : W3.cell? ⟨w.heap.size + 1 + 1, 3, none⟩ = some (.int .i64 b3) := blk_cell v3 3
        have z0 := blk_frozen v3 2
        have z1 := blk_frozen v3 3
        have d0 : W3.cell? ⟨wr.heap.size, 0, none⟩ = some (.int .i64 s0) := blk_cell v5 0
        have d1 : W3.cell? ⟨wr.heap.size, 1, none⟩ = some (.int .i64 s1) := blk_cell v5 1
        have d2 : W3.cell? ⟨wr.heap.size, 2, none⟩ = some (.int .i64 s2) := blk_cell v5 2
        have d3 : W3.cell? ⟨wr.heap.size, 3, none⟩ = some (.int .i64 s3) := blk_cell v5 3
        have V1 := Aside0.mk v1; have V2 := Aside0.mk v2; have V3 := Aside0.mk v3; have V4 := Aside0.mk x4'
        clear v1 v2 v3 x4' v5
        go_wp2
        refine wp_region_held_drew (S := fun w' => w'.cell? ⟨wr.heap.size, 0, none⟩ = some (.int .i64 s0) ∧ w'.cell? ⟨wr.heap.size, 1, none⟩ = some (.int .i64 s1) ∧ w'.cell? ⟨wr.heap.size, 2, none⟩ = some (.int .i64 s2) ∧ w'.cell? ⟨wr.heap.size, 3, none⟩ = some (.int .i64 s3)) (by kernel_rfl) ⟨d0, d1, d2, d3⟩ (fun hHeld => ?_)
        refine tk_take (i := 0) (v := ?_) (by kernel_rfl) (by kernel_rfl) (by kernel_rfl) (fun oi hoi => ?_) rfl
        rotate_left
        simp only [List.getElem?_toArray, List.getElem?_cons_succ, List.getElem?_cons_zero] at hoi
        cases hoi
        refine ⟨fun _ _ _ h => h, Or.inl ⟨by rfl, ?_⟩, by assumption, ?_⟩
        · (intro w hSw; (try dsimp only at hSw); go_simp; all_goals with_reducible rfl)
        try simp only [Act.put, List.setIfInBounds_toArray, List.set_cons_zero, List.set_cons_succ]
        refine tk_take (i := 2) (v := ?_) (by kernel_rfl) (by kernel_rfl) (by kernel_rfl) (fun oi hoi => ?_) rfl
        rotate_left
        simp only [List.getElem?_toArray, List.getElem?_cons_succ, List.getElem?_cons_zero] at hoi
        cases hoi
        refine ⟨fun _ _ _ h => h, Or.inl ⟨by rfl, ?_⟩, by assumption, ?_⟩
        · (intro w hSw; (try dsimp only at hSw); go_simp; all_goals with_reducible rfl)
        try simp only [Act.put, List.setIfInBounds_toArray, List.set_cons_zero, List.set_cons_succ]
        refine tk_take (i := 3) (v := ?_) (by kernel_rfl) (by kernel_rfl) (by kernel_rfl) (fun oi hoi => ?_) rfl
        rotate_left
        simp only [List.getElem?_toArray, List.getElem?_cons_succ, List.getElem?_cons_zero] at hoi
        cases hoi
        refine ⟨fun _ _ _ h => h, Or.inl ⟨by rfl, ?_⟩, by assumption, ?_⟩
        · (intro w hSw; (try dsimp only at hSw); go_simp; all_goals with_reducible rfl)
        try simp only [Act.put, List.setIfInBounds_toArray, List.set_cons_zero, List.set_cons_succ]
        refine tk_take (i := 4) (v := ?_) (by kernel_rfl) (by kernel_rfl) (by kernel_rfl) (fun oi hoi => ?_) rfl
        rotate_left
        simp only [List.getElem?_toArray, List.getElem?_cons_succ, List.getElem?_cons_zero] at hoi
        cases hoi
        refine ⟨fun _ _ _ h => h, Or.inl ⟨by rfl, ?_⟩, by assumption, ?_⟩
        · (intro w hSw; (try dsimp only at hSw); go_simp; all_goals with_reducible rfl)
        try simp only [Act.put, List.setIfInBounds_toArray, List.set_cons_zero, List.set_cons_succ]
        refine tk_take (i := 5) (v := ?_) (by kernel_rfl) (by kernel_rfl) (by kernel_rfl) (fun oi hoi => ?_) rfl
        rotate_left
        simp only [List.getElem?_toArray, List.getElem?_cons_succ, List.getElem?_cons_zero] at hoi
        cases hoi
        refine ⟨fun _ _ _ h => h, Or.inl ⟨by rfl, ?_⟩, by assumption, ?_⟩
        · (intro w hSw; (try dsimp only at hSw); go_simp; all_goals with_reducible rfl)
        try simp only [Act.put, List.setIfInBounds_toArray, List.set_cons_zero, List.set_cons_succ]
        refine tk_take (i := 7) (v := ?_) (by kernel_rfl) (by kernel_rfl) (by kernel_rfl) (fun oi hoi => ?_) rfl
        rotate_left
        simp only [List.getElem?_toArray, List.getElem?_cons_succ, List.getElem?_cons_zero] at hoi
        cases hoi
        refine ⟨fun _ _ _ h => h, Or.inl ⟨by rfl, ?_⟩, by assumption, ?_⟩
        · (intro w hSw; (try dsimp only at hSw); go_simp; all_goals with_reducible rfl)
        try simp only [Act.put, List.setIfInBounds_toArray, List.set_cons_zero, List.set_cons_succ]
        refine tk_take (i := 9) (v := ?_) (by kernel_rfl) (by kernel_rfl) (by kernel_rfl) (fun oi hoi => ?_) rfl
        rotate_left
        simp only [List.getElem?_toArray, List.getElem?_cons_succ, List.getElem?_cons_zero] at hoi
        cases hoi
        refine ⟨fun _ _ _ h => h, Or.inl ⟨by rfl, ?_⟩, by assumption, ?_⟩
        · (intro w hSw; (try dsimp only at hSw); go_simp; all_goals with_reducible rfl)
        try simp only [Act.put, List.setIfInBounds_toArray, List.set_cons_zero, List.set_cons_succ]
        refine tk_take (i := 10) (v := ?_) (by kernel_rfl) (by kernel_rfl) (by kernel_rfl) (fun oi hoi => ?_) rfl
        rotate_left
        simp only [List.getElem?_toArray, List.getElem?_cons_succ, List.getElem?_cons_zero] at hoi
        cases hoi
        refine ⟨fun _ _ _ h => h, Or.inl ⟨by rfl, ?_⟩, by assumption, ?_⟩
        · (intro w hSw; (try dsimp only at hSw); go_simp; all_goals with_reducible rfl)
        try simp only [Act.put, List.setIfInBounds_toArray, List.set_cons_zero, List.set_cons_succ]
        refine tk_take (i := 11) (v := ?_) (by kernel_rfl) (by kernel_rfl) (by kernel_rfl) (fun oi hoi => ?_) rfl
        rotate_left
        simp only [List.getElem?_toArray, List.getElem?_cons_succ, List.getElem?_cons_zero] at hoi
        cases hoi
        refine ⟨fun _ _ _ h => h, Or.inl ⟨by rfl, ?_⟩, by assumption, ?_⟩
        · (intro w hSw; (try dsimp only at hSw); go_simp; all_goals with_reducible rfl)
        try simp only [Act.put, List.setIfInBounds_toArray, List.set_cons_zero, List.set_cons_succ]
        refine tk_take (i := 12) (v := ?_) (by kernel_rfl) (by kernel_rfl) (by kernel_rfl) (fun oi hoi => ?_) rfl
        rotate_left
        simp only [List.getElem?_toArray, List.getElem?_cons_succ, List.getElem?_cons_zero] at hoi
        cases hoi
        refine ⟨fun _ _ _ h => h, Or.inl ⟨by rfl, ?_⟩, by assumption, ?_⟩
        · (intro w hSw; (try dsimp only at hSw); go_simp; all_goals with_reducible rfl)
        try simp only [Act.put, List.setIfInBounds_toArray, List.set_cons_zero, List.set_cons_succ]
        refine wpAnyH_ready (rs := [1, 8]) (by kernel_rfl) (by simp) ?_
        refine AllReadyH.cons rfl (fun K hK => ?_) (AllReadyH.cons rfl (fun K hK => ?_) AllReadyH.nil)
        · rw [if_pos (by rfl)]
          go_simp
          refine hK.out _ _ (by assumption) (fun hHeld => ?_)
          clear hK
          try simp only [Act.put, List.setIfInBounds_toArray, List.set_cons_zero, List.set_cons_succ]
          refine tk_take (i := 6) (v := ?_) (by kernel_rfl) (by kernel_rfl) (by kernel_rfl) (fun oi hoi => ?_) rfl
          rotate_left
          simp only [List.getElem?_toArray, List.getElem?_cons_succ, List.getElem?_cons_zero] at hoi
          cases hoi
          refine ⟨fun _ _ _ h => h, Or.inl ⟨by rfl, ?_⟩, by assumption, ?_⟩
          · (intro w hSw; (try dsimp only at hSw); go_simp; all_goals with_reducible rfl)
          try simp only [Act.put, List.setIfInBounds_toArray, List.set_cons_zero, List.set_cons_succ]
          refine wpAnyH_ready (rs := [8]) (by kernel_rfl) (by simp) ?_
          refine AllReadyH.cons rfl (fun K hK => ?_) AllReadyH.nil
          rw [if_pos (by rfl)]
          go_simp
          refine hK.out _ _ (by assumption) (fun hHeld => ?_)
          clear hK
          try simp only [Act.put, List.setIfInBounds_toArray, List.set_cons_zero, List.set_cons_succ]
          refine tk_take (i := 13) (v := ?_) (by kernel_rfl) (by kernel_rfl) (by kernel_rfl) (fun oi hoi => ?_) rfl
          rotate_left
          simp only [List.getElem?_toArray, List.getElem?_cons_succ, List.getElem?_cons_zero] at hoi
          cases hoi
          refine ⟨fun _ _ _ h => h, Or.inl ⟨by rfl, ?_⟩, by assumption, ?_⟩
          · (intro w hSw; (try dsimp only at hSw); go_simp; all_goals with_reducible rfl)
          try simp only [Act.put, List.setIfInBounds_toArray, List.set_cons_zero, List.set_cons_succ]
          refine tk_take (i := 14) (v := ?_) (by kernel_rfl) (by kernel_rfl) (by kernel_rfl) (fun oi hoi => ?_) rfl
          rotate_left
          simp only [List.getElem?_toArray, List.getElem?_cons_succ, List.getElem?_cons_zero] at hoi
          cases hoi
          refine ⟨fun _ _ _ h => h, Or.inl ⟨by rfl, ?_⟩, by assumption, ?_⟩
          · (intro w hSw; (try dsimp only at hSw); go_simp; all_goals with_reducible rfl)
          try simp only [Act.put, List.setIfInBounds_toArray, List.set_cons_zero, List.set_cons_succ]
          refine wpAnyH_ready (rs := [15]) (by kernel_rfl) (by simp) ?_
          refine AllReadyH.cons rfl (fun K hK => ?_) AllReadyH.nil
          rw [if_pos (by rfl)]
          go_simp
          refine hK.out _ _ ⟨(rb_far HNW.out).trans d0, (rb_far HNW.out).trans d1, (rb_far HNW.out).trans d2, (rb_far HNW.out).trans d3⟩ (fun hHeld => ?_)
          clear hK
          try simp only [Act.put, List.setIfInBounds_toArray, List.set_cons_zero, List.set_cons_succ]
          refine tk_take (i := 16) (v := ?_) (by kernel_rfl) (by kernel_rfl) (by kernel_rfl) (fun oi hoi => ?_) rfl
          rotate_left
          simp only [List.getElem?_toArray, List.getElem?_cons_succ, List.getElem?_cons_zero] at hoi
          cases hoi
          refine ⟨fun _ _ _ h => h, Or.inl ⟨by rfl, ?_⟩, by assumption, ?_⟩
          · (intro w hSw; (try dsimp only at hSw); go_simp; all_goals with_reducible rfl)
          try simp only [Act.put, List.setIfInBounds_toArray, List.set_cons_zero, List.set_cons_succ]
          refine wpAnyH_ready (rs := [17]) (by kernel_rfl) (by simp) ?_
          refine AllReadyH.cons rfl (fun K hK => ?_) AllReadyH.nil
          rw [if_pos (by rfl)]
          go_simp
          refine hK.out _ _ ⟨(rb_far HNW.out).trans ((rb_far HNW.out).trans d0), (rb_far HNW.out).trans ((rb_far HNW.out).trans d1), (rb_far HNW.out).trans ((rb_far HNW.out).trans d2), (rb_far HNW.out).trans ((rb_far HNW.out).trans d3)⟩ (fun hHeld => ?_)
          clear hK
          try simp only [Act.put, List.setIfInBounds_toArray, List.set_cons_zero, List.set_cons_succ]
          refine wpAnyH_done (by kernel_rfl) ?_ _
          generalize hm2 : (if (if b2 < s0 then s0 else b2) < s2 then s2 else if b2 < s0 then s0 else b2) = m2
          generalize hm3 : (if (if b3 < s1 then s1 else b3) < s3 then s3 else if b3 < s1 then s1 else b3) = m3
          have HM2 := Aside0.mk (show max (max b2 s0) s2 = m2 by rw [← hm2]; exact rb_max b2 s0 s2)
          have HM3 := Aside0.mk (show max (max b3 s1) s3 = m3 by rw [← hm3]; exact rb_max b3 s1 s3)
          have P := rb_put23 (m0 := .int .i64 m2) (m1 := .int .i64 m3) V3.out V4.out (show w.heap.size ≤ w.heap.size + 1 + 1 by omega)
          have v1 := (P.2.1 _ HN.out.1).trans V1.out
          have v2 := (P.2.1 _ HN.out.2.1).trans V2.out
          have v3 := P.1
          have x4 := P.2.2
          clear P
          generalize ((W3.setCell ⟨w.heap.size + 1 + 1, 2, none⟩ (.int .i64 m2)).setCell ⟨w.heap.size + 1 + 1, 3, none⟩ (.int .i64 m3)).drew = W5 at v1 v2 v3 x4 ⊢
          have HQ := Aside0.mk (show tu_box (l.take (i + 1)) = (m0, m1, m2, m3) by rw [HS.out]; unfold bx_two bx_step; dsimp only; rw [HM0.out, HM1.out, HM2.out, HM3.out])
          have V5 := Aside0.mk (And.intro v1 (And.intro v2 (And.intro v3 x4)))
          clear v1 v2 v3 x4 hm2 hm3 c0 c1 z0 z1 d0 d1 d2 d3
          go_wp2
          go_roundg (l.length - i)
          case measure => have := HI.out; have := HJ.out; omega
          case rel => exact ⟨i + 1, congrArg (Value.int .i64) (show wrap64 ((i : Int) + 1) = ((i + 1 : Nat) : Int) from by have := HJ.out; have := HL.out; unfold wrap64; omega), ⟨by have := HI.out; have := HJ.out; omega⟩, ⟨by rw [HQ.out]; exact V5.out⟩⟩
        · rw [if_pos (by rfl)]
          go_simp
          refine hK.out _ _ (by assumption) (fun hHeld => ?_)
          clear hK
          try simp only [Act.put, List.setIfInBounds_toArray, List.set_cons_zero, List.set_cons_succ]
          refine tk_take (i := 13) (v := ?_) (by kernel_rfl) (by kernel_rfl) (by kernel_rfl) (fun oi hoi => ?_) rfl
          rotate_left
          simp only [List.getElem?_toArray, List.getElem?_cons_succ, List.getElem?_cons_zero] at hoi
          cases hoi
          refine ⟨fun _ _ _ h => h, Or.inl ⟨by rfl, ?_⟩, by assumption, ?_⟩
          · (intro w hSw; (try dsimp only at hSw); go_simp; all_goals with_reducible rfl)
          try simp only [Act.put, List.setIfInBounds_toArray, List.set_cons_zero, List.set_cons_succ]
          refine wpAnyH_ready (rs := [1]) (by kernel_rfl) (by simp) ?_
          refine AllReadyH.cons rfl (fun K hK => ?_) AllReadyH.nil
          rw [if_pos (by rfl)]
          go_simp
          refine hK.out _ _ (by assumption) (fun hHeld => ?_)
          clear hK
          try simp only [Act.put, List.setIfInBounds_toArray, List.set_cons_zero, List.set_cons_succ]
          refine tk_take (i := 6) (v := ?_) (by kernel_rfl) (by kernel_rfl) (by kernel_rfl) (fun oi hoi => ?_) rfl
          rotate_left
          simp only [List.getElem?_toArray, List.getElem?_cons_succ, List.getElem?_cons_zero] at hoi
          cases hoi
          refine ⟨fun _ _ _ h => h, Or.inl ⟨by rfl, ?_⟩, by assumption, ?_⟩
          · (intro w hSw; (try dsimp only at hSw); go_simp; all_goals with_reducible rfl)
          try simp only [Act.put, List.setIfInBounds_toArray, List.set_cons_zero, List.set_cons_succ]
          refine tk_take (i := 14) (v := ?_) (by kernel_rfl) (by kernel_rfl) (by kernel_rfl) (fun oi hoi => ?_) rfl
          rotate_left
          simp only [List.getElem?_toArray, List.getElem?_cons_succ, List.getElem?_cons_zero] at hoi
          cases hoi
          refine ⟨fun _ _ _ h => h, Or.inl ⟨by rfl, ?_⟩, by assumption, ?_⟩
          · (intro w hSw; (try dsimp only at hSw); go_simp; all_goals with_reducible rfl)
          try simp only [Act.put, List.setIfInBounds_toArray, List.set_cons_zero, List.set_cons_succ]
          refine wpAnyH_ready (rs := [15]) (by kernel_rfl) (by simp) ?_
          refine AllReadyH.cons rfl (fun K hK => ?_) AllReadyH.nil
          rw [if_pos (by rfl)]
          go_simp
          refine hK.out _ _ ⟨(rb_far HNW.out).trans d0, (rb_far HNW.out).trans d1, (rb_far HNW.out).trans d2, (rb_far HNW.out).trans d3⟩ (fun hHeld => ?_)
          clear hK
          try simp only [Act.put, List.setIfInBounds_toArray, List.set_cons_zero, List.set_cons_succ]
          refine tk_take (i := 16) (v := ?_) (by kernel_rfl) (by kernel_rfl) (by kernel_rfl) (fun oi hoi => ?_) rfl
          rotate_left
          simp only [List.getElem?_toArray, List.getElem?_cons_succ, List.getElem?_cons_zero] at hoi
          cases hoi
          refine ⟨fun _ _ _ h => h, Or.inl ⟨by rfl, ?_⟩, by assumption, ?_⟩
          · (intro w hSw; (try dsimp only at hSw); go_simp; all_goals with_reducible rfl)
          try simp only [Act.put, List.setIfInBounds_toArray, List.set_cons_zero, List.set_cons_succ]
          refine wpAnyH_ready (rs := [17]) (by kernel_rfl) (by simp) ?_
          refine AllReadyH.cons rfl (fun K hK => ?_) AllReadyH.nil
          rw [if_pos (by rfl)]
          go_simp
          refine hK.out _ _ ⟨(rb_far HNW.out).trans ((rb_far HNW.out).trans d0), (rb_far HNW.out).trans ((rb_far HNW.out).trans d1), (rb_far HNW.out).trans ((rb_far HNW.out).trans d2), (rb_far HNW.out).trans ((rb_far HNW.out).trans d3)⟩ (fun hHeld => ?_)
          clear hK
          try simp only [Act.put, List.setIfInBounds_toArray, List.set_cons_zero, List.set_cons_succ]
          refine wpAnyH_done (by kernel_rfl) ?_ _
          generalize hm2 : (if (if b2 < s0 then s0 else b2) < s2 then s2 else if b2 < s0 then s0 else b2) = m2
          generalize hm3 : (if (if b3 < s1 then s1 else b3) < s3 then s3 else if b3 < s1 then s1 else b3) = m3
          have HM2 := Aside0.mk (show max (max b2 s0) s2 = m2 by rw [← hm2]; exact rb_max b2 s0 s2)
          have HM3 := Aside0.mk (show max (max b3 s1) s3 = m3 by rw [← hm3]; exact rb_max b3 s1 s3)
          have P := rb_put23 (m0 := .int .i64 m2) (m1 := .int .i64 m3) V3.out V4.out (show w.heap.size ≤ w.heap.size + 1 + 1 by omega)
          have v1 := (P.2.1 _ HN.out.1).trans V1.out
          have v2 := (P.2.1 _ HN.out.2.1).trans V2.out
          have v3 := P.1
          have x4 := P.2.2
          clear P
          generalize ((W3.setCell ⟨w.heap.size + 1 + 1, 2, none⟩ (.int .i64 m2)).setCell ⟨w.heap.size + 1 + 1, 3, none⟩ (.int .i64 m3)).drew = W5 at v1 v2 v3 x4 ⊢
          have HQ := Aside0.mk (show tu_box (l.take (i + 1)) = (m0, m1, m2, m3) by rw [HS.out]; unfold bx_two bx_step; dsimp only; rw [HM0.out, HM1.out, HM2.out, HM3.out])
          have V5 := Aside0.mk (And.intro v1 (And.intro v2 (And.intro v3 x4)))
          clear v1 v2 v3 x4 hm2 hm3 c0 c1 z0 z1 d0 d1 d2 d3
          go_wp2
          go_roundg (l.length - i)
          case measure => have := HI.out; have := HJ.out; omega
          case rel => exact ⟨i + 1, congrArg (Value.int .i64) (show wrap64 ((i : Int) + 1) = ((i + 1 : Nat) : Int) from by have := HJ.out; have := HL.out; unfold wrap64; omega), ⟨by have := HI.out; have := HJ.out; omega⟩, ⟨by rw [HQ.out]; exact V5.out⟩⟩
      · rw [if_pos (by rfl)]
        go_simp
        refine hK.out _ _ (by assumption) (fun hHeld => ?_)
        clear hK
        try simp only [Act.put, List.setIfInBounds_toArray, List.set_cons_zero, List.set_cons_succ]
        refine tk_take (i := 13) (v := ?_) (by kernel_rfl) (by kernel_rfl) (by kernel_rfl) (fun oi hoi => ?_) rfl
        rotate_left
        simp only [List.getElem?_toArray, List.getElem?_cons_succ, List.getElem?_cons_zero] at hoi
        cases hoi
        refine ⟨fun _ _ _ h => h, Or.inl ⟨by rfl, ?_⟩, by assumption, ?_⟩
        · (intro w hSw; (try dsimp only at hSw); go_simp; all_goals with_reducible rfl)
        try simp only [Act.put, List.setIfInBounds_toArray, List.set_cons_zero, List.set_cons_succ]
        refine wpAnyH_ready (rs := [1]) (by kernel_rfl) (by simp) ?_
        refine AllReadyH.cons rfl (fun K hK => ?_) AllReadyH.nil
        rw [if_pos (by rfl)]
        go_simp
        refine hK.out _ _ (by assumption) (fun hHeld => ?_)
        clear hK
        try simp only [Act.put, List.setIfInBounds_toArray, List.set_cons_zero, List.set_cons_succ]
        refine tk_take (i := 6) (v := ?_) (by kernel_rfl) (by kernel_rfl) (by kernel_rfl) (fun oi hoi => ?_) rfl
        rotate_left
        simp only [List.getElem?_toArray, List.getElem?_cons_succ, List.getElem?_cons_zero] at hoi
        cases hoi
        refine ⟨fun _ _ _ h => h, Or.inl ⟨by rfl, ?_⟩, by assumption, ?_⟩
        · (intro w hSw; (try dsimp only at hSw); go_simp; all_goals with_reducible rfl)
        try simp only [Act.put, List.setIfInBounds_toArray, List.set_cons_zero, List.set_cons_succ]
        refine tk_take (i := 14) (v := ?_) (by kernel_rfl) (by kernel_rfl) (by kernel_rfl) (fun oi hoi => ?_) rfl
        rotate_left
        simp only [List.getElem?_toArray, List.getElem?_cons_succ, List.getElem?_cons_zero] at hoi
        cases hoi
        refine ⟨fun _ _ _ h => h, Or.inl ⟨by rfl, ?_⟩, by assumption, ?_⟩
        · (intro w hSw; (try dsimp only at hSw); go_simp; all_goals with_reducible rfl)
        try simp only [Act.put, List.setIfInBounds_toArray, List.set_cons_zero, List.set_cons_succ]
        refine wpAnyH_ready (rs := [15]) (by kernel_rfl) (by simp) ?_
        refine AllReadyH.cons rfl (fun K hK => ?_) AllReadyH.nil
        rw [if_pos (by rfl)]
        go_simp
        refine hK.out _ _ ⟨(rb_far HNW.out).trans d0, (rb_far HNW.out).trans d1, (rb_far HNW.out).trans d2, (rb_far HNW.out).trans d3⟩ (fun hHeld => ?_)
        clear hK
        try simp only [Act.put, List.setIfInBounds_toArray, List.set_cons_zero, List.set_cons_succ]
        refine tk_take (i := 16) (v := ?_) (by kernel_rfl) (by kernel_rfl) (by kernel_rfl) (fun oi hoi => ?_) rfl
        rotate_left
        simp only [List.getElem?_toArray, List.getElem?_cons_succ, List.getElem?_cons_zero] at hoi
        cases hoi
        refine ⟨fun _ _ _ h => h, Or.inl ⟨by rfl, ?_⟩, by assumption, ?_⟩
        · (intro w hSw; (try dsimp only at hSw); go_simp; all_goals with_reducible rfl)
        try simp only [Act.put, List.setIfInBounds_toArray, List.set_cons_zero, List.set_cons_succ]
        refine wpAnyH_ready (rs := [17]) (by kernel_rfl) (by simp) ?_
        refine AllReadyH.cons rfl (fun K hK => ?_) AllReadyH.nil
        rw [if_pos (by rfl)]
        go_simp
        refine hK.out _ _ ⟨(rb_far HNW.out).trans ((rb_far HNW.out).trans d0), (rb_far HNW.out).trans ((rb_far HNW.out).trans d1), (rb_far HNW.out).trans ((rb_far HNW.out).trans d2), (rb_far HNW.out).trans ((rb_far HNW.out).trans d3)⟩ (fun hHeld => ?_)
        clear hK
        try simp only [Act.put, List.setIfInBounds_toArray, List.set_cons_zero, List.set_cons_succ]
        refine wpAnyH_done (by kernel_rfl) ?_ _
        generalize hm0 : (if s2 < if s0 < b0 then s0 else b0 then s2 else if s0 < b0 then s0 else b0) = m0
        generalize hm1 : (if s3 < if s1 < b1 then s1 else b1 then s3 else if s1 < b1 then s1 else b1) = m1
        have HM0 := Aside0.mk (show min (min b0 s0) s2 = m0 by rw [← hm0]; exact rb_min b0 s0 s2)
        have HM1 := Aside0.mk (show min (min b1 s1) s3 = m1 by rw [← hm1]; exact rb_min b1 s1 s3)
        have P := rb_put01 (m0 := .int .i64 m0) (m1 := .int .i64 m1) Y3.out Y4.out (show w.heap.size ≤ w.heap.size + 1 + 1 by omega)
        have HN := Aside0.mk (show w.heap.size ≠ w.heap.size + 1 + 1 ∧ w.heap.size + 1 ≠ w.heap.size + 1 + 1 ∧ wr.heap.size ≠ w.heap.size + 1 + 1 by have := HBL.out; omega)
        have v1 := (P.2.1 _ HN.out.1).trans Y1.out
        have v2 := (P.2.1 _ HN.out.2.1).trans Y2.out
        have v5 := (P.2.1 _ HN.out.2.2).trans Y5.out
        have v3 := P.1
        have x4' := P.2.2
        clear P
        generalize ((W1.setCell ⟨w.heap.size + 1 + 1, 0, none⟩ (.int .i64 m0)).setCell ⟨w.heap.size + 1 + 1, 1, none⟩ (.int .i64 m1)).drew = W3 at v1 v2 v3 v5 x4' ⊢
        clear hm0 hm1 c0 c1 z0 z1 d0 d1 d2 d3
        have c0 : W3.cell? ⟨w.heap.size + 1 + 1, 2, none⟩ = some (.int .i64 b2) := blk_cell v3 2
        have c1 : W3.cell? ⟨w.heap.size + 1 + 1, 3, none⟩ = some (.int .i64 b3) := blk_cell v3 3
        have z0 := blk_frozen v3 2
        have z1 := blk_frozen v3 3
        have d0 : W3.cell? ⟨wr.heap.size, 0, none⟩ = some (.int .i64 s0) := blk_cell v5 0
        have d1 : W3.cell? ⟨wr.heap.size, 1, none⟩ = some (.int .i64 s1) := blk_cell v5 1
        have d2 : W3.cell? ⟨wr.heap.size, 2, none⟩ = some (.int .i64 s2) := blk_cell v5 2
        have d3 : W3.cell? ⟨wr.heap.size, 3, none⟩ = some (.int .i64 s3) := blk_cell v5 3
        have V1 := Aside0.mk v1; have V2 := Aside0.mk v2; have V3 := Aside0.mk v3; have V4 := Aside0.mk x4'
        clear v1 v2 v3 x4' v5
        go_wp2
        refine wp_region_held_drew (S := fun w' => w'.cell? ⟨wr.heap.size, 0, none⟩ = some (.int .i64 s0) ∧ w'.cell? ⟨wr.heap.size, 1, none⟩ = some (.int .i64 s1) ∧ w'.cell? ⟨wr.heap.size, 2, none⟩ = some (.int .i64 s2) ∧ w'.cell? ⟨wr.heap.size, 3, none⟩ = some (.int .i64 s3)) (by kernel_rfl) ⟨d0, d1, d2, d3⟩ (fun hHeld => ?_)
        refine tk_take (i := 0) (v := ?_) (by kernel_rfl) (by kernel_rfl) (by kernel_rfl) (fun oi hoi => ?_) rfl
        rotate_left
        simp only [List.getElem?_toArray, List.getElem?_cons_succ, List.getElem?_cons_zero] at hoi
        cases hoi
        refine ⟨fun _ _ _ h => h, Or.inl ⟨by rfl, ?_⟩, by assumption, ?_⟩
        · (intro w hSw; (try dsimp only at hSw); go_simp; all_goals with_reducible rfl)
        try simp only [Act.put, List.setIfInBounds_toArray, List.set_cons_zero, List.set_cons_succ]
        refine tk_take (i := 2) (v := ?_) (by kernel_rfl) (by kernel_rfl) (by kernel_rfl) (fun oi hoi => ?_) rfl
        rotate_left
        simp only [List.getElem?_toArray, List.getElem?_cons_succ, List.getElem?_cons_zero] at hoi
        cases hoi
        refine ⟨fun _ _ _ h => h, Or.inl ⟨by rfl, ?_⟩, by assumption, ?_⟩
        · (intro w hSw; (try dsimp only at hSw); go_simp; all_goals with_reducible rfl)
        try simp only [Act.put, List.setIfInBounds_toArray, List.set_cons_zero, List.set_cons_succ]
        refine tk_take (i := 3) (v := ?_) (by kernel_rfl) (by kernel_rfl) (by kernel_rfl) (fun oi hoi => ?_) rfl
        rotate_left
        simp only [List.getElem?_toArray, List.getElem?_cons_succ, List.getElem?_cons_zero] at hoi
        cases hoi
        refine ⟨fun _ _ _ h => h, Or.inl ⟨by rfl, ?_⟩, by assumption, ?_⟩
        · (intro w hSw; (try dsimp only at hSw); go_simp; all_goals with_reducible rfl)
        try simp only [Act.put, List.setIfInBounds_toArray, List.set_cons_zero, List.set_cons_succ]
        refine tk_take (i := 4) (v := ?_) (by kernel_rfl) (by kernel_rfl) (by kernel_rfl) (fun oi hoi => ?_) rfl
        rotate_left
        simp only [List.getElem?_toArray, List.getElem?_cons_succ, List.getElem?_cons_zero] at hoi
        cases hoi
        refine ⟨fun _ _ _ h => h, Or.inl ⟨by rfl, ?_⟩, by assumption, ?_⟩
        · (intro w hSw; (try dsimp only at hSw); go_simp; all_goals with_reducible rfl)
        try simp only [Act.put, List.setIfInBounds_toArray, List.set_cons_zero, List.set_cons_succ]
        refine tk_take (i := 5) (v := ?_) (by kernel_rfl) (by kernel_rfl) (by kernel_rfl) (fun oi hoi => ?_) rfl
        rotate_left
        simp only [List.getElem?_toArray, List.getElem?_cons_succ, List.getElem?_cons_zero] at hoi
        cases hoi
        refine ⟨fun _ _ _ h => h, Or.inl ⟨by rfl, ?_⟩, by assumption, ?_⟩
        · (intro w hSw; (try dsimp only at hSw); go_simp; all_goals with_reducible rfl)
        try simp only [Act.put, List.setIfInBounds_toArray, List.set_cons_zero, List.set_cons_succ]
        refine tk_take (i := 7) (v := ?_) (by kernel_rfl) (by kernel_rfl) (by kernel_rfl) (fun oi hoi => ?_) rfl
        rotate_left
        simp only [List.getElem?_toArray, List.getElem?_cons_succ, List.getElem?_cons_zero] at hoi
        cases hoi
        refine ⟨fun _ _ _ h => h, Or.inl ⟨by rfl, ?_⟩, by assumption, ?_⟩
        · (intro w hSw; (try dsimp only at hSw); go_simp; all_goals with_reducible rfl)
        try simp only [Act.put, List.setIfInBounds_toArray, List.set_cons_zero, List.set_cons_succ]
        refine tk_take (i := 9) (v := ?_) (by kernel_rfl) (by kernel_rfl) (by kernel_rfl) (fun oi hoi => ?_) rfl
        rotate_left
        simp only [List.getElem?_toArray, List.getElem?_cons_succ, List.getElem?_cons_zero] at hoi
        cases hoi
        refine ⟨fun _ _ _ h => h, Or.inl ⟨by rfl, ?_⟩, by assumption, ?_⟩
        · (intro w hSw; (try dsimp only at hSw); go_simp; all_goals with_reducible rfl)
        try simp only [Act.put, List.setIfInBounds_toArray, List.set_cons_zero, List.set_cons_succ]
        refine tk_take (i := 10) (v := ?_) (by kernel_rfl) (by kernel_rfl) (by kernel_rfl) (fun oi hoi => ?_) rfl
        rotate_left
        simp only [List.getElem?_toArray, List.getElem?_cons_succ, List.getElem?_cons_zero] at hoi
        cases hoi
        refine ⟨fun _ _ _ h => h, Or.inl ⟨by rfl, ?_⟩, by assumption, ?_⟩
        · (intro w hSw; (try dsimp only at hSw); go_simp; all_goals with_reducible rfl)
        try simp only [Act.put, List.setIfInBounds_toArray, List.set_cons_zero, List.set_cons_succ]
        refine tk_take (i := 11) (v := ?_) (by kernel_rfl) (by kernel_rfl) (by kernel_rfl) (fun oi hoi => ?_) rfl
        rotate_left
        simp only [List.getElem?_toArray, List.getElem?_cons_succ, List.getElem?_cons_zero] at hoi
        cases hoi
        refine ⟨fun _ _ _ h => h, Or.inl ⟨by rfl, ?_⟩, by assumption, ?_⟩
        · (intro w hSw; (try dsimp only at hSw); go_simp; all_goals with_reducible rfl)
        try simp only [Act.put, List.setIfInBounds_toArray, List.set_cons_zero, List.set_cons_succ]
        refine tk_take (i := 12) (v := ?_) (by kernel_rfl) (by kernel_rfl) (by kernel_rfl) (fun oi hoi => ?_) rfl
        rotate_left
        simp only [List.getElem?_toArray, List.getElem?_cons_succ, List.getElem?_cons_zero] at hoi
        cases hoi
        refine ⟨fun _ _ _ h => h, Or.inl ⟨by rfl, ?_⟩, by assumption, ?_⟩
        · (intro w hSw; (try dsimp only at hSw); go_simp; all_goals with_reducible rfl)
        try simp only [Act.put, List.setIfInBounds_toArray, List.set_cons_zero, List.set_cons_succ]
        refine wpAnyH_ready (rs := [1, 8]) (by kernel_rfl) (by simp) ?_
        refine AllReadyH.cons rfl (fun K hK => ?_) (AllReadyH.cons rfl (fun K hK => ?_) AllReadyH.nil)
        · rw [if_pos (by rfl)]
          go_simp
          refine hK.out _ _ (by assumption) (fun hHeld => ?_)
          clear hK
          try simp only [Act.put, List.setIfInBounds_toArray, List.set_cons_zero, List.set_cons_succ]
          refine tk_take (i := 6) (v := ?_) (by kernel_rfl) (by kernel_rfl) (by kernel_rfl) (fun oi hoi => ?_) rfl
          rotate_left
          simp only [List.getElem?_toArray, List.getElem?_cons_succ, List.getElem?_cons_zero] at hoi
          cases hoi
          refine ⟨fun _ _ _ h => h, Or.inl ⟨by rfl, ?_⟩, by assumption, ?_⟩
          · (intro w hSw; (try dsimp only at hSw); go_simp; all_goals with_reducible rfl)
          try simp only [Act.put, List.setIfInBounds_toArray, List.set_cons_zero, List.set_cons_succ]
          refine wpAnyH_ready (rs := [8]) (by kernel_rfl) (by simp) ?_
          refine AllReadyH.cons rfl (fun K hK => ?_) AllReadyH.nil
          rw [if_pos (by rfl)]
          go_simp
          refine hK.out _ _ (by assumption) (fun hHeld => ?_)
          clear hK
          try simp only [Act.put, List.setIfInBounds_toArray, List.set_cons_zero, List.set_cons_succ]
          refine tk_take (i := 13) (v := ?_) (by kernel_rfl) (by kernel_rfl) (by kernel_rfl) (fun oi hoi => ?_) rfl
          rotate_left
          simp only [List.getElem?_toArray, List.getElem?_cons_succ, List.getElem?_cons_zero] at hoi
          cases hoi
          refine ⟨fun _ _ _ h => h, Or.inl ⟨by rfl, ?_⟩, by assumption, ?_⟩
          · (intro w hSw; (try dsimp only at hSw); go_simp; all_goals with_reducible rfl)
          try simp only [Act.put, List.setIfInBounds_toArray, List.set_cons_zero, List.set_cons_succ]
          refine tk_take (i := 14) (v := ?_) (by kernel_rfl) (by kernel_rfl) (by kernel_rfl) (fun oi hoi => ?_) rfl
          rotate_left
          simp only [List.getElem?_toArray, List.getElem?_cons_succ, List.getElem?_cons_zero] at hoi
          cases hoi
          refine ⟨fun _ _ _ h => h, Or.inl ⟨by rfl, ?_⟩, by assumption, ?_⟩
          · (intro w hSw; (try dsimp only at hSw); go_simp; all_goals with_reducible rfl)
          try simp only [Act.put, List.setIfInBounds_toArray, List.set_cons_zero, List.set_cons_succ]
          refine wpAnyH_ready (rs := [15]) (by kernel_rfl) (by simp) ?_
          refine AllReadyH.cons rfl (fun K hK => ?_) AllReadyH.nil
          rw [if_pos (by rfl)]
          go_simp
          refine hK.out _ _ ⟨(rb_far HNW.out).trans d0, (rb_far HNW.out).trans d1, (rb_far HNW.out).trans d2, (rb_far HNW.out).trans d3⟩ (fun hHeld => ?_)
          clear hK
          try simp only [Act.put, List.setIfInBounds_toArray, List.set_cons_zero, List.set_cons_succ]
          refine tk_take (i := 16) (v := ?_) (by kernel_rfl) (by kernel_rfl) (by kernel_rfl) (fun oi hoi => ?_) rfl
          rotate_left
          simp only [List.getElem?_toArray, List.getElem?_cons_succ, List.getElem?_cons_zero] at hoi
          cases hoi
          refine ⟨fun _ _ _ h => h, Or.inl ⟨by rfl, ?_⟩, by assumption, ?_⟩
          · (intro w hSw; (try dsimp only at hSw); go_simp; all_goals with_reducible rfl)
          try simp only [Act.put, List.setIfInBounds_toArray, List.set_cons_zero, List.set_cons_succ]
          refine wpAnyH_ready (rs := [17]) (by kernel_rfl) (by simp) ?_
          refine AllReadyH.cons rfl (fun K hK => ?_) AllReadyH.nil
          rw [if_pos (by rfl)]
          go_simp
          refine hK.out _ _ ⟨(rb_far HNW.out).trans ((rb_far HNW.out).trans d0), (rb_far HNW.out).trans ((rb_far HNW.out).trans d1), (rb_far HNW.out).trans ((rb_far HNW.out).trans d2), (rb_far HNW.out).trans ((rb_far HNW.out).trans d3)⟩ (fun hHeld => ?_)
          clear hK
          try simp only [Act.put, List.setIfInBounds_toArray, List.set_cons_zero, List.set_cons_succ]
          refine wpAnyH_done (by kernel_rfl) ?_ _
          generalize hm2 : (if (if b2 < s0 then s0 else b2) < s2 then s2 else if b2 < s0 then s0 else b2) = m2
          generalize hm3 : (if (if b3 < s1 then s1 else b3) < s3 then s3 else if b3 < s1 then s1 else b3) = m3
          have HM2 := Aside0.mk (show max (max b2 s0) s2 = m2 by rw [← hm2]; exact rb_max b2 s0 s2)
          have HM3 := Aside0.mk (show max (max b3 s1) s3 = m3 by rw [← hm3]; exact rb_max b3 s1 s3)
          have P := rb_put23 (m0 := .int .i64 m2) (m1 := .int .i64 m3) V3.out V4.out (show w.heap.size ≤ w.heap.size + 1 + 1 by omega)
          have v1 := (P.2.1 _ HN.out.1).trans V1.out
          have v2 := (P.2.1 _ HN.out.2.1).trans V2.out
          have v3 := P.1
          have x4 := P.2.2
          clear P
          generalize ((W3.setCell ⟨w.heap.size + 1 + 1, 2, none⟩ (.int .i64 m2)).setCell ⟨w.heap.size + 1 + 1, 3, none⟩ (.int .i64 m3)).drew = W5 at v1 v2 v3 x4 ⊢
          have HQ := Aside0.mk (show tu_box (l.take (i + 1)) = (m0, m1, m2, m3) by rw [HS.out]; unfold bx_two bx_step; dsimp only; rw [HM0.out, HM1.out, HM2.out, HM3.out])
          have V5 := Aside0.mk (And.intro v1 (And.intro v2 (And.intro v3 x4)))
          clear v1 v2 v3 x4 hm2 hm3 c0 c1 z0 z1 d0 d1 d2 d3
          go_wp2
          go_roundg (l.length - i)
          case measure => have := HI.out; have := HJ.out; omega
          case rel => exact ⟨i + 1, congrArg (Value.int .i64) (show wrap64 ((i : Int) + 1) = ((i + 1 : Nat) : Int) from by have := HJ.out; have := HL.out; unfold wrap64; omega), ⟨by have := HI.out; have := HJ.out; omega⟩, ⟨by rw [HQ.out]; exact V5.out⟩⟩
        · rw [if_pos (by rfl)]
          go_simp
          refine hK.out _ _ (by assumption) (fun hHeld => ?_)
          clear hK
          try simp only [Act.put, List.setIfInBounds_toArray, List.set_cons_zero, List.set_cons_succ]
          refine tk_take (i := 13) (v := ?_) (by kernel_rfl) (by kernel_rfl) (by kernel_rfl) (fun oi hoi => ?_) rfl
          rotate_left
          simp only [List.getElem?_toArray, List.getElem?_cons_succ, List.getElem?_cons_zero] at hoi
          cases hoi
          refine ⟨fun _ _ _ h => h, Or.inl ⟨by rfl, ?_⟩, by assumption, ?_⟩
          · (intro w hSw; (try dsimp only at hSw); go_simp; all_goals with_reducible rfl)
          try simp only [Act.put, List.setIfInBounds_toArray, List.set_cons_zero, List.set_cons_succ]
          refine wpAnyH_ready (rs := [1]) (by kernel_rfl) (by simp) ?_
          refine AllReadyH.cons rfl (fun K hK => ?_) AllReadyH.nil
          rw [if_pos (by rfl)]
          go_simp
          refine hK.out _ _ (by assumption) (fun hHeld => ?_)
          clear hK
          try simp only [Act.put, List.setIfInBounds_toArray, List.set_cons_zero, List.set_cons_succ]
          refine tk_take (i := 6) (v := ?_) (by kernel_rfl) (by kernel_rfl) (by kernel_rfl) (fun oi hoi => ?_) rfl
          rotate_left
          simp only [List.getElem?_toArray, List.getElem?_cons_succ, List.getElem?_cons_zero] at hoi
          cases hoi
          refine ⟨fun _ _ _ h => h, Or.inl ⟨by rfl, ?_⟩, by assumption, ?_⟩
          · (intro w hSw; (try dsimp only at hSw); go_simp; all_goals with_reducible rfl)
          try simp only [Act.put, List.setIfInBounds_toArray, List.set_cons_zero, List.set_cons_succ]
          refine tk_take (i := 14) (v := ?_) (by kernel_rfl) (by kernel_rfl) (by kernel_rfl) (fun oi hoi => ?_) rfl
          rotate_left
          simp only [List.getElem?_toArray, List.getElem?_cons_succ, List.getElem?_cons_zero] at hoi
          cases hoi
          refine ⟨fun _ _ _ h => h, Or.inl ⟨by rfl, ?_⟩, by assumption, ?_⟩
          · (intro w hSw; (try dsimp only at hSw); go_simp; all_goals with_reducible rfl)
          try simp only [Act.put, List.setIfInBounds_toArray, List.set_cons_zero, List.set_cons_succ]
          refine wpAnyH_ready (rs := [15]) (by kernel_rfl) (by simp) ?_
          refine AllReadyH.cons rfl (fun K hK => ?_) AllReadyH.nil
          rw [if_pos (by rfl)]
          go_simp
          refine hK.out _ _ ⟨(rb_far HNW.out).trans d0, (rb_far HNW.out).trans d1, (rb_far HNW.out).trans d2, (rb_far HNW.out).trans d3⟩ (fun hHeld => ?_)
          clear hK
          try simp only [Act.put, List.setIfInBounds_toArray, List.set_cons_zero, List.set_cons_succ]
          refine tk_take (i := 16) (v := ?_) (by kernel_rfl) (by kernel_rfl) (by kernel_rfl) (fun oi hoi => ?_) rfl
          rotate_left
          simp only [List.getElem?_toArray, List.getElem?_cons_succ, List.getElem?_cons_zero] at hoi
          cases hoi
          refine ⟨fun _ _ _ h => h, Or.inl ⟨by rfl, ?_⟩, by assumption, ?_⟩
          · (intro w hSw; (try dsimp only at hSw); go_simp; all_goals with_reducible rfl)
          try simp only [Act.put, List.setIfInBounds_toArray, List.set_cons_zero, List.set_cons_succ]
          refine wpAnyH_ready (rs := [17]) (by kernel_rfl) (by simp) ?_
          refine AllReadyH.cons rfl (fun K hK => ?_) AllReadyH.nil
          rw [if_pos (by rfl)]
          go_simp
          refine hK.out _ _ ⟨(rb_far HNW.out).trans ((rb_far HNW.out).trans d0), (rb_far HNW.out).trans ((rb_far HNW.out).trans d1), (rb_far HNW.out).trans ((rb_far HNW.out).trans d2), (rb_far HNW.out).trans ((rb_far HNW.out).trans d3)⟩ (fun hHeld => ?_)
          clear hK
          try simp only [Act.put, List.setIfInBounds_toArray, List.set_cons_zero, List.set_cons_succ]
          refine wpAnyH_done (by kernel_rfl) ?_ _
          generalize hm2 : (if (if b2 < s0 then s0 else b2) < s2 then s2 else if b2 < s0 then s0 else b2) = m2
          generalize hm3 : (if (if b3 < s1 then s1 else b3) < s3 then s3 else if b3 < s1 then s1 else b3) = m3
          have HM2 := Aside0.mk (show max (max b2 s0) s2 = m2 by rw [← hm2]; exact rb_max b2 s0 s2)
          have HM3 := Aside0.mk (show max (max b3 s1) s3 = m3 by rw [← hm3]; exact rb_max b3 s1 s3)
          have P := rb_put23 (m0 := .int .i64 m2) (m1 := .int .i64 m3) V3.out V4.out (show w.heap.size ≤ w.heap.size + 1 + 1 by omega)
          have v1 := (P.2.1 _ HN.out.1).trans V1.out
          have v2 := (P.2.1 _ HN.out.2.1).trans V2.out
          have v3 := P.1
          have x4 := P.2.2
          clear P
          generalize ((W3.setCell ⟨w.heap.size + 1 + 1, 2, none⟩ (.int .i64 m2)).setCell ⟨w.heap.size + 1 + 1, 3, none⟩ (.int .i64 m3)).drew = W5 at v1 v2 v3 x4 ⊢
          have HQ := Aside0.mk (show tu_box (l.take (i + 1)) = (m0, m1, m2, m3) by rw [HS.out]; unfold bx_two bx_step; dsimp only; rw [HM0.out, HM1.out, HM2.out, HM3.out])
          have V5 := Aside0.mk (And.intro v1 (And.intro v2 (And.intro v3 x4)))
          clear v1 v2 v3 x4 hm2 hm3 c0 c1 z0 z1 d0 d1 d2 d3
          go_wp2
          go_roundg (l.length - i)
          case measure => have := HI.out; have := HJ.out; omega
          case rel => exact ⟨i + 1, congrArg (Value.int .i64) (show wrap64 ((i : Int) + 1) = ((i + 1 : Nat) : Int) from by have := HJ.out; have := HL.out; unfold wrap64; omega), ⟨by have := HI.out; have := HJ.out; omega⟩, ⟨by rw [HQ.out]; exact V5.out⟩⟩
    · have hi1 : decide ((i : Int) < (l.length : Int)) = false := decide_eq_false (by omega)
      have hin : decide (i < l.length) = false := decide_eq_false hi
      have hq : l.take i = l := by rw [show i = l.length by have := HI.out; omega, List.take_length]
      rw [hq] at h3
      obtain ⟨bb, hbb⟩ : ∃ bb, tu_box l = bb := ⟨_, rfl⟩
      rw [hbb] at h3
      have HBB := Aside0.mk hbb
      obtain ⟨b0, b1, b2, b3⟩ := bb
      dsimp only at h3
      have H2 := Aside0.mk h2; have H4 := Aside0.mk h4
      have c0 : wr.cell? ⟨w.heap.size + 1 + 1, 0, none⟩ = some (.int .i64 b0) := blk_cell h3 0
      have c1 : wr.cell? ⟨w.heap.size + 1 + 1, 1, none⟩ = some (.int .i64 b1) := blk_cell h3 1
      have c2 : wr.cell? ⟨w.heap.size + 1 + 1, 2, none⟩ = some (.int .i64 b2) := blk_cell h3 2
      have c3 : wr.cell? ⟨w.heap.size + 1 + 1, 3, none⟩ = some (.int .i64 b3) := blk_cell h3 3
      have r0 : wr.cell? ⟨w.heap.size + 1, 0, none⟩ = some (.int .i64 0) := blk_cell h2 0
      have r1 : wr.cell? ⟨w.heap.size + 1, 1, none⟩ = some (.int .i64 0) := blk_cell h2 1
      have r2 : wr.cell? ⟨w.heap.size + 1, 2, none⟩ = some (.int .i64 0) := blk_cell h2 2
      have r3 : wr.cell? ⟨w.heap.size + 1, 3, none⟩ = some (.int .i64 0) := blk_cell h2 3
      have z0 := blk_frozen h2 0
      have z1 := blk_frozen h2 1
      have z2 := blk_frozen h2 2
      have z3 := blk_frozen h2 3
      clear hi hq h1 h2 h3 h4 hbb
      go_wp2
      have P := rb_put4 (m0 := .int .i64 b0) (m1 := .int .i64 b1) (m2 := .int .i64 b2) (m3 := .int .i64 b3) H2.out H4.out (show w.heap.size ≤ w.heap.size + 1 by omega)
      refine bodyPost_ret (rb_res rfl _ _ (w.heap.size + 1) 60 #[.int .i64 b0, .int .i64 b1, .int .i64 b2, .int .i64 b3] (0, 0) _ rfl P.1 Try.underlying60 rfl (by kernel_rfl)) rfl ?_
      exact ⟨by rw [HBB.out]; rfl, P.2⟩

end Go.Proofs.Ytbfepcajbbeheaa.P

-- Written by a program of this session (wip/tools/hp.py) out of the translation.
import Derived.Test.YtbhccjoodlldbaaPx0
namespace Go.Proofs.Ytbhccjoodlldbaa.P
open Go.RowKit Go.Proofs.YtbhccjoodlldbaaW.PrintWords Go.Proofs.YtbhccjoodlldbaaW.PrintLast Go.Proofs.YtbhccjoodlldbaaW.PrintMore
attribute [local go_sem] max2_int min2_int max_two min_two max_three min_three max_four min_four   -- for this text's walks alone
set_option linter.unusedVariables false
set_option linter.unusedSimpArgs false

/-! ### ranges_Builder_Mark: function 19 -/
theorem ranges_Mark.info : (Try.prog.info? 57).map (fun i => (i.zero, i.size, i.bytes)) = some (some (.agg #[(.int .i64 0), (.int .i64 0)]), 2, 16) := by kernel_rfl
/-- What stands behind a call of Mark, of a builder at g that held the row v: it holds L' now. -/
def ranges_Mark.Post (w0 w : World) (g : Nat) (v : Value) (L' : List S57) (w' : World) : Prop :=
  ∃ A' c', w'.heap[g]? = some (.cells #[.slice A' L'.length c'] 53 (0, 0)) ∧ Kd.R k57 57 w' w0.heap.size (fun _ => True) (.slice A' L'.length c') L' ∧ Below w0.heap.size w0 w' ∧ Kept w w' (fun k => k = g ∨ some k = v.ownBlock)
theorem ranges_Mark.stored {w0 w W w1 : World} {g : Nat} {v0 v v1 u : Value} {L' : List S57} (hk : Kept w W (fun k => k = g ∨ some k = v0.ownBlock)) (hv : v.ownBlock = v0.ownBlock)
    (hg : W.heap[g]? = some (.cells #[u] 53 (0, 0))) (hgb : w0.heap.size ≤ g) (ho : Kd.R k57 57 w1 w0.heap.size (fun _ => True) v1 L') (hb : Below w0.heap.size w0 w1) (hg1 : W.grownBy w1 v.ownBlock) (hne : some g ≠ v.ownBlock) :
    ranges_Mark.Post w0 w g v0 L' (w1.setCell ⟨g, 0, none⟩ v1) := by
  obtain ⟨A', c', rfl⟩ := Kd.R_slice ho
  have h1 := blk_grown hg hg1 hne
  refine ⟨A', c', one_setCell h1, Kd.R_set ho h1 (by decide) 0 _, below_set hb hgb, ?_⟩
  refine Kept.then_ (S2 := fun k => k = g) (Kept.of_grown hg1 hk (fun k hk => .inl (.inr (by rw [← hk, hv])))) ⟨?_, fun i _ hn => ?_⟩ (fun k hk => .inl (.inl hk))
  · simp [World.setCell]
  · exact Below.heap_setCell w1 ⟨g, 0, none⟩ _ i hn
theorem ranges_Mark.left {w0 w W : World} {g : Nat} {v0 : Value} {A : Option Addr} {n c : Nat} {L' : List S57} (hk : Kept w W (fun k => k = g ∨ some k = v0.ownBlock)) (hn : n = L'.length)
    (hg : W.heap[g]? = some (.cells #[.slice A n c] 53 (0, 0))) (ho : Kd.R k57 57 W w0.heap.size (fun _ => True) (.slice A n c) L') (hb : Below w0.heap.size w0 W) : ranges_Mark.Post w0 w g v0 L' W := by
  subst hn
  exact ⟨A, c, hg, ho, hb, hk⟩
set_option maxHeartbeats 1000000 in
set_option maxRecDepth 100000 in
theorem ranges_Mark.nil (g : Nat) (A : Option Addr) (c : Nat) (at_ pad : Int) (w0 w : World) (hg : w.heap[g]? = some (.cells #[.slice A 0 c] 53 (0, 0))) (hgb : w0.heap.size ≤ g)
    (hR : Kd.R k57 57 w w0.heap.size (fun _ => True) (.slice A 0 c) []) (hB : Below w0.heap.size w0 w) :
    Calls Try.prog 19 #[.pointer (some ⟨g, 0, none⟩), .int .i64 at_, .int .i64 pad] w fun e w' => e = .returned (.tuple #[]) ∧ ranges_Mark.Post w0 w g (.slice A 0 c) [⟨at_, pad⟩] w' := by
  have HB := Aside0.mk hB
  have HR := Aside0.mk hR
  have HG := Aside0.mk hg
  have hc := cell_of_one hg
  have hf := free_of_one hg
  clear hg hR hB
  go_enter Try.func19, Try.ntmps19
  go_wp2_with (first | ((with_reducible refine gate_builtin (b := .append) (xs := #[.tmp 71, .tmp 75]) rfl ?_); at_builtin; refine Kd.R_append k57 (w0 := w0) w0.heap.size rfl (.tmp 71) (.tmp 75) 51 57 (.agg #[(.int .i64 0), (.int .i64 0)]) 16 rfl Try.underlying51 ranges_Mark.info rfl (by decide) (by omega) (.slice A 0 c) [] (⟨at_, pad⟩ : S57) [.int .i64 at_, .int .i64 pad] (fun _ => True) (fun _ => False) rfl (by first | rfl | (go_simp; done) | (go_simp; rfl)) ?aP (fun _ hk => hk.elim) ?aF ?aO ?aB ?aS ?aL ?_; (case aP => exact k57_mkM _ _ _ (⟨at_, pad⟩ : S57)); (case aB => exact HB.out); (case aF => exact (fun _ _ => trivial)); (case aO => exact HR.out); (case aS => exact (HB.out).size); (case aL => first | omega | (simp; done) | (simp; omega)); intro v1 w1 ho hb hgr hat; obtain ⟨A1, c1, rfl⟩ := Kd.R_slice ho; have P1 := Aside0.mk (ranges_Mark.stored (v0 := (.slice A 0 c)) (Kept.refl w _) rfl HG.out hgb ho hb hgr (Kd.R_ne HR.out HG.out (by decide))); have hc1 := cell_of_one (blk_grown HG.out hgr (Kd.R_ne HR.out HG.out (by decide))); have hf1 := free_of_one (blk_grown HG.out hgr (Kd.R_ne HR.out HG.out (by decide))); clear ho hb hgr hat))
  go_end0
  exact ⟨rfl, P1.out⟩
set_option maxHeartbeats 1000000 in
set_option maxRecDepth 100000 in
theorem ranges_Mark.same (g : Nat) (A : Option Addr) (m c : Nat) (L : List S57) (y0 y1 at_ pad : Int) (w0 w : World) (hg : w.heap[g]? = some (.cells #[.slice A (m + 1) c] 53 (0, 0))) (hgb : w0.heap.size ≤ g)
    (hR : Kd.R k57 57 w w0.heap.size (fun _ => True) (.slice A (m + 1) c) L) (hB : Below w0.heap.size w0 w) (hy0 : (rd_T57 L (m : Int)).f0 = y0) (hy1 : (rd_T57 L (m : Int)).f1 = y1) (hl : m ≤ 1000000) (h1 : ¬ at_ ≤ y0) (h2 : y1 = pad) :
    Calls Try.prog 19 #[.pointer (some ⟨g, 0, none⟩), .int .i64 at_, .int .i64 pad] w fun e w' => e = .returned (.tuple #[]) ∧ ranges_Mark.Post w0 w g (.slice A (m + 1) c) L w' := by
  have HB := Aside0.mk hB
  have HR := Aside0.mk hR
  have HG := Aside0.mk hg
  have hc := cell_of_one hg
  have hf := free_of_one hg
  have hlen : L.length = m + 1 := (Kd.R_reads' hR).1.symm
  obtain ⟨ad, e, hx0, hx1⟩ := at_T57 (Kd.R_reads' hR).2.2 (m : Int) (by omega) (by omega)
  cases e
  rw [hy0] at hx0
  rw [hy1] at hx1
  rw [Int.toNat_natCast] at hx0 hx1
  have h1b : decide (at_ ≤ y0) = false := decide_eq_false h1
  have h2b : (y1 == pad) = true := beq_iff_eq.mpr h2
  have P1 := Aside0.mk (ranges_Mark.left (v0 := .slice (some ad) (m + 1) c) (Kept.refl w _) hlen.symm hg hR hB)
  clear hg hR hB hy0 hy1 h1 h2 hlen
  go_enter Try.func19, Try.ntmps19
  go_wp2
  refine bodyPost_ret (results_none rfl _ _ _) rfl ?_
  exact ⟨rfl, P1.out⟩
set_option maxHeartbeats 1000000 in
set_option maxRecDepth 100000 in
theorem ranges_Mark.more (g : Nat) (A : Option Addr) (m c : Nat) (L : List S57) (y0 y1 at_ pad : Int) (w0 w : World) (hg : w.heap[g]? = some (.cells #[.slice A (m + 1) c] 53 (0, 0))) (hgb : w0.heap.size ≤ g)
    (hR : Kd.R k57 57 w w0.heap.size (fun _ => True) (.slice A (m + 1) c) L) (hB : Below w0.heap.size w0 w) (hy0 : (rd_T57 L (m : Int)).f0 = y0) (hy1 : (rd_T57 L (m : Int)).f1 = y1) (hl : m ≤ 1000000) (h1 : ¬ at_ ≤ y0) (h2 : ¬ y1 = pad) :
    Calls Try.prog 19 #[.pointer (some ⟨g, 0, none⟩), .int .i64 at_, .int .i64 pad] w fun e w' => e = .returned (.tuple #[]) ∧ ranges_Mark.Post w0 w g (.slice A (m + 1) c) (L ++ [⟨at_, pad⟩]) w' := by
  have HB := Aside0.mk hB
  have HR := Aside0.mk hR
  have HG := Aside0.mk hg
  have hc := cell_of_one hg
  have hf := free_of_one hg
  have hlen : L.length = m + 1 := (Kd.R_reads' hR).1.symm
  obtain ⟨ad, e, hx0, hx1⟩ := at_T57 (Kd.R_reads' hR).2.2 (m : Int) (by omega) (by omega)
  cases e
  rw [hy0] at hx0
  rw [hy1] at hx1
  rw [Int.toNat_natCast] at hx0 hx1
  have h1b : decide (at_ ≤ y0) = false := decide_eq_false h1
  have h2b : (y1 == pad) = false := beq_eq_false_iff_ne.mpr h2
  clear hg hR hB hy0 hy1 h1 h2
  go_enter Try.func19, Try.ntmps19
  go_wp2_with (first | ((with_reducible refine gate_builtin (b := .append) (xs := #[.tmp 71, .tmp 75]) rfl ?_); at_builtin; refine Kd.R_append k57 (w0 := w0) w0.heap.size rfl (.tmp 71) (.tmp 75) 51 57 (.agg #[(.int .i64 0), (.int .i64 0)]) 16 rfl Try.underlying51 ranges_Mark.info rfl (by decide) (by omega) (.slice (some ad) (m + 1) c) L (⟨at_, pad⟩ : S57) [.int .i64 at_, .int .i64 pad] (fun _ => True) (fun _ => False) rfl (by first | rfl | (go_simp; done) | (go_simp; rfl)) ?aP (fun _ hk => hk.elim) ?aF ?aO ?aB ?aS ?aL ?_; (case aP => exact k57_mkM _ _ _ (⟨at_, pad⟩ : S57)); (case aB => exact HB.out); (case aF => exact (fun _ _ => trivial)); (case aO => exact HR.out); (case aS => exact (HB.out).size); (case aL => first | omega | (simp; done) | (simp; omega)); intro v1 w1 ho hb hgr hat; obtain ⟨A1, c1, rfl⟩ := Kd.R_slice ho; have P1 := Aside0.mk (ranges_Mark.stored (v0 := (.slice (some ad) (m + 1) c)) (Kept.refl w _) rfl HG.out hgb ho hb hgr (Kd.R_ne HR.out HG.out (by decide))); have hc1 := cell_of_one (blk_grown HG.out hgr (Kd.R_ne HR.out HG.out (by decide))); have hf1 := free_of_one (blk_grown HG.out hgr (Kd.R_ne HR.out HG.out (by decide))); clear ho hb hgr hat))
  go_end0
  have P2 := P1.out
  simp only [List.length_append, List.length_singleton, hlen] at P2
  exact ⟨rfl, P2⟩
set_option maxHeartbeats 1000000 in
set_option maxRecDepth 100000 in
theorem ranges_Mark.cut0 (g : Nat) (A : Option Addr) (m c : Nat) (L : List S57) (y0 y1 at_ pad : Int) (w0 w : World) (hg : w.heap[g]? = some (.cells #[.slice A (m + 1) c] 53 (0, 0))) (hgb : w0.heap.size ≤ g)
    (hR : Kd.R k57 57 w w0.heap.size (fun _ => True) (.slice A (m + 1) c) L) (hB : Below w0.heap.size w0 w) (hy0 : (rd_T57 L (m : Int)).f0 = y0) (hy1 : (rd_T57 L (m : Int)).f1 = y1) (hl : m ≤ 1000000) (h0 : m = 0) (h1 : at_ ≤ y0) :
    Calls Try.prog 19 #[.pointer (some ⟨g, 0, none⟩), .int .i64 at_, .int .i64 pad] w fun e w' => e = .returned (.tuple #[]) ∧ ranges_Mark.Post w0 w g (.slice A (m + 1) c) [⟨y0, pad⟩] w' := by
  have HB := Aside0.mk hB
  have HR := Aside0.mk hR
  have HG := Aside0.mk hg
  have hc := cell_of_one hg
  have hf := free_of_one hg
  have hlen : L.length = m + 1 := (Kd.R_reads' hR).1.symm
  obtain ⟨ad, e, hx0, hx1⟩ := at_T57 (Kd.R_reads' hR).2.2 (m : Int) (by omega) (by omega)
  cases e
  rw [hy0] at hx0
  rw [hy1] at hx1
  rw [Int.toNat_natCast] at hx0 hx1
  have hne : ad.block ≠ g := fun h => Kd.R_ne hR hg (by decide) (by rw [← h]; rfl)
  obtain ⟨i0, hi0, _⟩ := info_parts ranges_Mark.info
  have hcut := cut_to (P := Try.prog) 51 57 .i64 Try.underlying51 hi0 (some ad) (m + 1) c (m : Int) (by omega) (by omega) (Kd.R_reads' hR).2.1
  rw [Int.toNat_natCast] at hcut
  have hR1 := Kd.R_set (Kd.R_take (m := m) hR (by omega)) hg (by decide) 0 (.slice (some ad) m c)
  have hG1 := one_setCell (u := .slice (some ad) m c) hg
  have hB1 := below_set (j := 0) (v := .slice (some ad) m c) hB hgb
  have hK1 : Kept w (w.setCell ⟨g, 0, none⟩ (.slice (some ad) m c)) (fun k => k = g ∨ some k = (Value.slice (some ad) (m + 1) c).ownBlock) := Kept.setCell (Kept.refl _ _) (.inl (.inl rfl)) _
  have hlt : (L.take m).length = m := by rw [List.length_take]; omega
  have h1b : decide (at_ ≤ y0) = true := decide_eq_true h1
  have HR1 := Aside0.mk hR1
  have HG1 := Aside0.mk hG1
  have HB1 := Aside0.mk hB1
  have HK1 := Aside0.mk hK1
  clear hg hR hB hy0 hy1 h1 hR1 hG1 hB1 hK1 hlt hlen hx1
  subst h0
  have hx2 : w.cell? ad = some (.int .i64 y0) := hx0
  have hc2 : w.cell? ⟨g, 0, none⟩ = some (.slice (some ad) 1 c) := hc
  have hcut2 : ∀ W : World, (Instr.slice 51 (.slice (some ad) 1 c) none (some (.int .i64 0)) none).run Try.prog W = .ok (.slice (some ad) 0 c) W := hcut
  clear hx0 hc hcut
  go_enter Try.func19, Try.ntmps19
  go_wp2_with (first | ((with_reducible refine gate_builtin (b := .append) (xs := #[.tmp 71, .tmp 75]) rfl ?_); at_builtin; refine Kd.R_append k57 (w0 := w0) w0.heap.size rfl (.tmp 71) (.tmp 75) 51 57 (.agg #[(.int .i64 0), (.int .i64 0)]) 16 rfl Try.underlying51 ranges_Mark.info rfl (by decide) (by omega) (.slice (some ad) 0 c) (L.take 0) (⟨y0, pad⟩ : S57) [.int .i64 y0, .int .i64 pad] (fun _ => True) (fun _ => False) rfl (by first | rfl | (go_simp; done) | (go_simp; rfl)) ?aP (fun _ hk => hk.elim) ?aF ?aO ?aB ?aS ?aL ?_; (case aP => exact k57_mkM _ _ _ (⟨y0, pad⟩ : S57)); (case aB => exact HB1.out); (case aF => exact (fun _ _ => trivial)); (case aO => exact HR1.out); (case aS => exact (HB1.out).size); (case aL => first | omega | (simp; done) | (simp; omega)); intro v1 w1 ho hb hgr hat; obtain ⟨A1, c1, rfl⟩ := Kd.R_slice ho; have P1 := Aside0.mk (ranges_Mark.stored (v0 := (.slice (some ad) (0 + 1) c)) HK1.out rfl HG1.out hgb ho hb hgr (Kd.R_ne HR1.out HG1.out (by decide))); have hc1 := cell_of_one (blk_grown HG1.out hgr (Kd.R_ne HR1.out HG1.out (by decide))); have hf1 := free_of_one (blk_grown HG1.out hgr (Kd.R_ne HR1.out HG1.out (by decide))); clear ho hb hgr hat))
  go_end0
  have P2 := P1.out
  simp only [List.take_zero, List.nil_append, List.length_singleton] at P2
  exact ⟨rfl, P2⟩
set_option maxHeartbeats 1000000 in
set_option maxRecDepth 100000 in
theorem ranges_Mark.cutsame (g : Nat) (A : Option Addr) (m c : Nat) (L : List S57) (y0 y1 z1 at_ pad : Int) (w0 w : World) (hg : w.heap[g]? = some (.cells #[.slice A (m + 1) c] 53 (0, 0))) (hgb : w0.heap.size ≤ g)
    (hR : Kd.R k57 57 w w0.heap.size (fun _ => True) (.slice A (m + 1) c) L) (hB : Below w0.heap.size w0 w) (hy0 : (rd_T57 L (m : Int)).f0 = y0) (hy1 : (rd_T57 L (m : Int)).f1 = y1) (hl : m ≤ 1000000) (h0 : 1 ≤ m) (h1 : at_ ≤ y0) (hz : (rd_T57 (L.take m) ((m : Int) - 1)).f1 = z1) (h2 : z1 = pad) :
    Calls Try.prog 19 #[.pointer (some ⟨g, 0, none⟩), .int .i64 at_, .int .i64 pad] w fun e w' => e = .returned (.tuple #[]) ∧ ranges_Mark.Post w0 w g (.slice A (m + 1) c) (L.take m) w' := by
  have HB := Aside0.mk hB
  have HR := Aside0.mk hR
  have HG := Aside0.mk hg
  have hc := cell_of_one hg
  have hf := free_of_one hg
  have hlen : L.length = m + 1 := (Kd.R_reads' hR).1.symm
  obtain ⟨ad, e, hx0, hx1⟩ := at_T57 (Kd.R_reads' hR).2.2 (m : Int) (by omega) (by omega)
  cases e
  rw [hy0] at hx0
  rw [hy1] at hx1
  rw [Int.toNat_natCast] at hx0 hx1
  have hne : ad.block ≠ g := fun h => Kd.R_ne hR hg (by decide) (by rw [← h]; rfl)
  obtain ⟨i0, hi0, _⟩ := info_parts ranges_Mark.info
  have hcut := cut_to (P := Try.prog) 51 57 .i64 Try.underlying51 hi0 (some ad) (m + 1) c (m : Int) (by omega) (by omega) (Kd.R_reads' hR).2.1
  rw [Int.toNat_natCast] at hcut
  have hR1 := Kd.R_set (Kd.R_take (m := m) hR (by omega)) hg (by decide) 0 (.slice (some ad) m c)
  have hG1 := one_setCell (u := .slice (some ad) m c) hg
  have hB1 := below_set (j := 0) (v := .slice (some ad) m c) hB hgb
  have hK1 : Kept w (w.setCell ⟨g, 0, none⟩ (.slice (some ad) m c)) (fun k => k = g ∨ some k = (Value.slice (some ad) (m + 1) c).ownBlock) := Kept.setCell (Kept.refl _ _) (.inl (.inl rfl)) _
  have hlt : (L.take m).length = m := by rw [List.length_take]; omega
  obtain ⟨ad2, e2, _, hz1⟩ := at_T57 (Kd.R_reads' hR1).2.2 ((m : Int) - 1) (by omega) (by rw [hlt]; omega)
  obtain rfl : ad = ad2 := by injection e2
  rw [show ((m : Int) - 1).toNat = m - 1 by omega, hz] at hz1
  have hsub : ((m : Int) - 1).toNat = m - 1 := by omega
  have hpos2 : decide (0 < (m : Int)) = true := decide_eq_true (by omega)
  have h1b : decide (at_ ≤ y0) = true := decide_eq_true h1
  have HR1 := Aside0.mk hR1
  have HG1 := Aside0.mk hG1
  have HB1 := Aside0.mk hB1
  have HK1 := Aside0.mk hK1
  have h2b : (z1 == pad) = true := beq_iff_eq.mpr h2
  have P1 := Aside0.mk (ranges_Mark.left (v0 := .slice (some ad) (m + 1) c) hK1 hlt.symm hG1 hR1 hB1)
  clear hg hR hB hy0 hy1 h1 hR1 hG1 hB1 hK1 hlt hlen hx1 hz h2 e2
  go_enter Try.func19, Try.ntmps19
  go_wp2
  refine bodyPost_ret (results_none rfl _ _ _) rfl ?_
  exact ⟨rfl, P1.out⟩
set_option maxHeartbeats 1000000 in
set_option maxRecDepth 100000 in
theorem ranges_Mark.cutmore (g : Nat) (A : Option Addr) (m c : Nat) (L : List S57) (y0 y1 z1 at_ pad : Int) (w0 w : World) (hg : w.heap[g]? = some (.cells #[.slice A (m + 1) c] 53 (0, 0))) (hgb : w0.heap.size ≤ g)
    (hR : Kd.R k57 57 w w0.heap.size (fun _ => True) (.slice A (m + 1) c) L) (hB : Below w0.heap.size w0 w) (hy0 : (rd_T57 L (m : Int)).f0 = y0) (hy1 : (rd_T57 L (m : Int)).f1 = y1) (hl : m ≤ 1000000) (h0 : 1 ≤ m) (h1 : at_ ≤ y0) (hz : (rd_T57 (L.take m) ((m : Int) - 1)).f1 = z1) (h2 : ¬ z1 = pad) :
    Calls Try.prog 19 #[.pointer (some ⟨g, 0, none⟩), .int .i64 at_, .int .i64 pad] w fun e w' => e = .returned (.tuple #[]) ∧ ranges_Mark.Post w0 w g (.slice A (m + 1) c) (L.take m ++ [⟨y0, pad⟩]) w' := by
  have HB := Aside0.mk hB
  have HR := Aside0.mk hR
  have HG := Aside0.mk hg
  have hc := cell_of_one hg
  have hf := free_of_one hg
  have hlen : L.length = m + 1 := (Kd.R_reads' hR).1.symm
  obtain ⟨ad, e, hx0, hx1⟩ := at_T57 (Kd.R_reads' hR).2.2 (m : Int) (by omega) (by omega)
  cases e
  rw [hy0] at hx0
  rw [hy1] at hx1
  rw [Int.toNat_natCast] at hx0 hx1
  have hne : ad.block ≠ g := fun h => Kd.R_ne hR hg (by decide) (by rw [← h]; rfl)
  obtain ⟨i0, hi0, _⟩ := info_parts ranges_Mark.info
  have hcut := cut_to (P := Try.prog) 51 57 .i64 Try.underlying51 hi0 (some ad) (m + 1) c (m : Int) (by omega) (by omega) (Kd.R_reads' hR).2.1
  rw [Int.toNat_natCast] at hcut
  have hR1 := Kd.R_set (Kd.R_take (m := m) hR (by omega)) hg (by decide) 0 (.slice (some ad) m c)
  have hG1 := one_setCell (u := .slice (some ad) m c) hg
  have hB1 := below_set (j := 0) (v := .slice (some ad) m c) hB hgb
  have hK1 : Kept w (w.setCell ⟨g, 0, none⟩ (.slice (some ad) m c)) (fun k => k = g ∨ some k = (Value.slice (some ad) (m + 1) c).ownBlock) := Kept.setCell (Kept.refl _ _) (.inl (.inl rfl)) _
  have hlt : (L.take m).length = m := by rw [List.length_take]; omega
  obtain ⟨ad2, e2, _, hz1⟩ := at_T57 (Kd.R_reads' hR1).2.2 ((m : Int) - 1) (by omega) (by rw [hlt]; omega)
  obtain rfl : ad = ad2 := by injection e2
  rw [show ((m : Int) - 1).toNat = m - 1 by omega, hz] at hz1
  have hsub : ((m : Int) - 1).toNat = m - 1 := by omega
  have hpos2 : decide (0 < (m : Int)) = true := decide_eq_true (by omega)
  have h1b : decide (at_ ≤ y0) = true := decide_eq_true h1
  have HR1 := Aside0.mk hR1
  have HG1 := Aside0.mk hG1
  have HB1 := Aside0.mk hB1
  have HK1 := Aside0.mk hK1
  have h2b : (z1 == pad) = false := beq_eq_false_iff_ne.mpr h2
  clear hg hR hB hy0 hy1 h1 hR1 hG1 hB1 hK1 hlen hx1 hz h2 e2
  go_enter Try.func19, Try.ntmps19
  go_wp2_with (first | ((with_reducible refine gate_builtin (b := .append) (xs := #[.tmp 71, .tmp 75]) rfl ?_); at_builtin; refine Kd.R_append k57 (w0 := w0) w0.heap.size rfl (.tmp 71) (.tmp 75) 51 57 (.agg #[(.int .i64 0), (.int .i64 0)]) 16 rfl Try.underlying51 ranges_Mark.info rfl (by decide) (by omega) (.slice (some ad) m c) (L.take m) (⟨y0, pad⟩ : S57) [.int .i64 y0, .int .i64 pad] (fun _ => True) (fun _ => False) rfl (by first | rfl | (go_simp; done) | (go_simp; rfl)) ?aP (fun _ hk => hk.elim) ?aF ?aO ?aB ?aS ?aL ?_; (case aP => exact k57_mkM _ _ _ (⟨y0, pad⟩ : S57)); (case aB => exact HB1.out); (case aF => exact (fun _ _ => trivial)); (case aO => exact HR1.out); (case aS => exact (HB1.out).size); (case aL => first | omega | (simp; done) | (simp; omega)); intro v1 w1 ho hb hgr hat; obtain ⟨A1, c1, rfl⟩ := Kd.R_slice ho; have P1 := Aside0.mk (ranges_Mark.stored (v0 := (.slice (some ad) (m + 1) c)) HK1.out rfl HG1.out hgb ho hb hgr (Kd.R_ne HR1.out HG1.out (by decide))); have hc1 := cell_of_one (blk_grown HG1.out hgr (Kd.R_ne HR1.out HG1.out (by decide))); have hf1 := free_of_one (blk_grown HG1.out hgr (Kd.R_ne HR1.out HG1.out (by decide))); clear ho hb hgr hat))
  go_end0
  have P2 := P1.out
  simp only [List.length_append, List.length_singleton, hlt] at P2
  exact ⟨rfl, P2⟩
/-- The rows behind a call of Mark. -/
def ranges_Mark.of (L : List S57) (at_ pad : Int) : List S57 :=
  match L.length with
  | 0 => [⟨at_, pad⟩]
  | m + 1 =>
    if at_ ≤ (rd_T57 L (m : Int)).f0 then
      (if m = 0 then [⟨(rd_T57 L (m : Int)).f0, pad⟩] else if (rd_T57 (L.take m) ((m : Int) - 1)).f1 = pad then L.take m else L.take m ++ [⟨(rd_T57 L (m : Int)).f0, pad⟩])
    else if (rd_T57 L (m : Int)).f1 = pad then L else L ++ [⟨at_, pad⟩]
theorem ranges_Mark.calls (g : Nat) (A : Option Addr) (c : Nat) (L : List S57) (at_ pad : Int) (w0 w : World) (hg : w.heap[g]? = some (.cells #[.slice A L.length c] 53 (0, 0))) (hgb : w0.heap.size ≤ g)
    (hR : Kd.R k57 57 w w0.heap.size (fun _ => True) (.slice A L.length c) L) (hB : Below w0.heap.size w0 w) (hl : L.length ≤ 1000000) :
    Calls Try.prog 19 #[.pointer (some ⟨g, 0, none⟩), .int .i64 at_, .int .i64 pad] w fun e w' => e = .returned (.tuple #[]) ∧ ranges_Mark.Post w0 w g (.slice A L.length c) (ranges_Mark.of L at_ pad) w' := by
  unfold ranges_Mark.of
  generalize hn : L.length = n at hg hR hl ⊢
  cases n with
  | zero =>
    obtain rfl : L = [] := List.eq_nil_of_length_eq_zero hn
    exact ranges_Mark.nil g A c at_ pad w0 w hg hgb hR hB
  | succ m =>
    dsimp only
    by_cases h1 : at_ ≤ (rd_T57 L (m : Int)).f0
    · rw [if_pos h1]
      by_cases h0 : m = 0
      · rw [if_pos h0]; exact ranges_Mark.cut0 g A m c L _ _ at_ pad w0 w hg hgb hR hB rfl rfl (by omega) h0 h1
      · rw [if_neg h0]
        by_cases h2 : (rd_T57 (L.take m) ((m : Int) - 1)).f1 = pad
        · rw [if_pos h2]; exact ranges_Mark.cutsame g A m c L _ _ _ at_ pad w0 w hg hgb hR hB rfl rfl (by omega) (by omega) h1 rfl h2
        · rw [if_neg h2]; exact ranges_Mark.cutmore g A m c L _ _ _ at_ pad w0 w hg hgb hR hB rfl rfl (by omega) (by omega) h1 rfl h2
    · rw [if_neg h1]
      by_cases h2 : (rd_T57 L (m : Int)).f1 = pad
      · rw [if_pos h2]; exact ranges_Mark.same g A m c L _ _ at_ pad w0 w hg hgb hR hB rfl rfl (by omega) h1 h2
      · rw [if_neg h2]; exact ranges_Mark.more g A m c L _ _ at_ pad w0 w hg hgb hR hB rfl rfl (by omega) h1 h2
/-- A builder at g that holds the row L, since w0. -/
def ranges_Bld (w0 w : World) (g : Nat) (A : Option Addr) (c : Nat) (L : List S57) : Prop :=
  w.heap[g]? = some (.cells #[.slice A L.length c] 53 (0, 0)) ∧ Kd.R k57 57 w w0.heap.size (fun _ => True) (.slice A L.length c) L ∧ Below w0.heap.size w0 w ∧ w0.heap.size ≤ g
theorem ranges_Bld.below {w0 w w' : World} {g : Nat} {A : Option Addr} {c : Nat} {L : List S57} (h : ranges_Bld w0 w g A c L) (hb : Below w.heap.size w w') : ranges_Bld w0 w' g A c L :=
  ⟨(hb.block g (blk_lt h.1)).trans h.1, Kd.R_below h.2.1 hb, h.2.2.1.trans (hb.mono h.2.2.1.size), h.2.2.2⟩
theorem ranges_Bld.new (w0 w : World) (hb : Below w0.heap.size w0 w) : ranges_Bld w0 (w.alloc (.cells #[.slice none 0 0] 53)) w.heap.size none 0 [] :=
  ⟨blk_new w _, Kd.R_nil _ _ _ _ _, below_alloc hb _, hb.size⟩
theorem ranges_Mark.does {g : Nat} {A : Option Addr} {c : Nat} {L : List S57} {w0 w : World} (at_ pad : Int) (h : ranges_Bld w0 w g A c L) (hl : L.length ≤ 1000000) :
    Calls Try.prog 19 #[.pointer (some ⟨g, 0, none⟩), .int .i64 at_, .int .i64 pad] w fun e w' => e = .returned (.tuple #[]) ∧ ∃ A' c', ranges_Bld w0 w' g A' c' (ranges_Mark.of L at_ pad) := by
  refine (ranges_Mark.calls g A c L at_ pad w0 w h.1 h.2.2.2 h.2.1 h.2.2.1 hl).mono ?_
  rintro e w' ⟨rfl, A', c', h1, h2, h3, _⟩
  exact ⟨rfl, A', c', h1, h2, h3, h.2.2.2⟩

end Go.Proofs.Ytbhccjoodlldbaa.P

-- Written by a program of this session (wip/tools/hp.py) out of the translation.
import Derived.Test.YtkgjpelddncfdaaPx0
import Derived.Test.YtkgjpelddncfdaaPx10
namespace Go.Proofs.Ytkgjpelddncfdaa.P
open Go.RowKit Go.Proofs.YtkgjpelddncfdaaW.PrintWords Go.Proofs.YtkgjpelddncfdaaW.PrintLast Go.Proofs.YtkgjpelddncfdaaW.PrintMore
attribute [local go_sem] max2_int min2_int max_two min_two max_three min_three max_four min_four   -- for this text's walks alone
set_option linter.unusedVariables false
set_option linter.unusedSimpArgs false

/-! ### pascalineref11_Find: function 16 -/
def pascalineref11_Find.l0 : Nat → ByteArray → Int → List (S46) → Int → List (List (S46)) → Option (ByteArray × Int × Int × Int × Int × Int × Bool × (List (S69)) × Int)
  | 0, _, _, _, _, _ => none
  | k + 1, x1, x6, x116000, x116001, x116002 => if x6 ≥ 0 then ((pascalineref11_at.f k x116000 x116001 x116002 x6 x1).bind fun t117 => (if t117 ≥ 0 then (if 0 ≤ t117 then (if t117 < (x116000.length : Int) then (some ((rd_T46 x116000 t117).f0, (rd_T46 x116000 t117).f1, (rd_T46 x116000 t117).f2, (rd_T46 x116000 t117).f3, (rd_T46 x116000 t117).f4, (rd_T46 x116000 t117).f5, (rd_T46 x116000 t117).f6, (rd_T46 x116000 t117).f7, 0)) else (none)) else (none)) else (pascalineref11_Find.l0 k x1 (wrap64 (x6 - 1)) x116000 x116001 x116002))) else (some ((⟨#[]⟩ : ByteArray), 0, 0, 0, 0, 0, false, ([] : List (S69)), 110))
def pascalineref11_Find.f (k : Nat) (l0_0 : List (S46)) (a0_1 : Int) (l0_2 : List (List (S46))) (a1 : ByteArray) : Option (ByteArray × Int × Int × Int × Int × Int × Bool × (List (S69)) × Int) := pascalineref11_Find.l0 k a1 a0_1 l0_0 a0_1 l0_2
theorem pascalineref11_Find.mono_l : ∀ k, (∀ y0 y1 y2 y3 y4, LeO (pascalineref11_Find.l0 k y0 y1 y2 y3 y4) (pascalineref11_Find.l0 (k + 1) y0 y1 y2 y3 y4))
  | 0 => fun _ _ _ _ _ r h => by simp [pascalineref11_Find.l0] at h
  | k + 1 => by
    have ih0 := pascalineref11_Find.mono_l k
    · intro y0 y1 y2 y3 y4
      unfold pascalineref11_Find.l0
      repeat' first
      | (with_reducible exact ih0 _ _ _ _ _)
      | (with_reducible exact pascalineref11_at.mono _ _ _ _ _ _)
      | (with_reducible exact LeO.refl _)
      | (with_reducible exact LeO.none _)
      | (with_reducible refine LeO.ite ?_ ?_)
      | (with_reducible refine LeO.bind ?_ (fun _ => ?_))
      | exact ih0 _ _ _ _ _
      | exact pascalineref11_at.mono _ _ _ _ _ _
      | exact LeO.none _
      | refine LeO.ite ?_ ?_
      | refine LeO.bind ?_ (fun _ => ?_)
theorem pascalineref11_Find.mono : ∀ a0 a1 a2 a3 k, LeO (pascalineref11_Find.f k a0 a1 a2 a3) (pascalineref11_Find.f (k + 1) a0 a1 a2 a3) := by
  intro a0 a1 a2 a3 k
  have ih0 := pascalineref11_Find.mono_l k
  unfold pascalineref11_Find.f
  repeat' first
      | (with_reducible exact ih0 _ _ _ _ _)
      | (with_reducible exact pascalineref11_at.mono _ _ _ _ _ _)
      | (with_reducible exact LeO.refl _)
      | (with_reducible exact LeO.none _)
      | (with_reducible refine LeO.ite ?_ ?_)
      | (with_reducible refine LeO.bind ?_ (fun _ => ?_))
      | exact ih0 _ _ _ _ _
      | exact pascalineref11_at.mono _ _ _ _ _ _
      | exact LeO.none _
      | refine LeO.ite ?_ ?_
      | refine LeO.bind ?_ (fun _ => ?_)
set_option maxHeartbeats 8000000 in
set_option maxRecDepth 100000 in
theorem pascalineref11_Find.calls (k : Nat) (P0_0_ : Nat → Prop) (A0_0 : Option Addr) (c0_0 : Nat) (l0_0 : List (S46)) (a0_1 : Int) (A0_2 : Option Addr) (c0_2 : Nat) (l0_2 : List (List (S46))) (a1 : ByteArray) (r1 : ByteArray) (r2 : Int) (r3 : Int) (r4 : Int) (r5 : Int) (r6 : Int) (r7 : Bool) (r8 : List (S69)) (r9 : Int) (w : World) (hs0_0 : Kd.V k46 46 w w.heap.size (fun k_ => P0_0_ k_) (.slice A0_0 l0_0.length c0_0) l0_0) (hr0_2 : Kd.C (Kd.slice 46 k46) w A0_2 l0_2.length l0_2) (hc0_2 : l0_2.length ≤ c0_2) (h : pascalineref11_Find.f k l0_0 a0_1 l0_2 a1 = some (r1, r2, r3, r4, r5, r6, r7, r8, r9)) :
    Calls Try.prog 16 #[.agg #[.slice A0_0 l0_0.length c0_0, .int .i64 a0_1, .slice A0_2 l0_2.length c0_2], .string a1] w fun e w' => ∃ v7_ : Value, e = .returned (.tuple #[.agg #[.string r1, .int .i64 r2, .int .i64 r3, .int .i64 r4, .int .i32 r5, .int .i64 r6, .bool r7, v7_], .int .i64 r9]) ∧ Kd.V k69 69 w' w.heap.size (fun k_ => (P0_0_ k_ ∨ w.heap.size ≤ k_)) v7_ r8 ∧ Below w.heap.size w w' := by
  have hu31 := Try.underlying31
  have hu46 := Try.underlying46
  have HO0_0 := Aside0.mk (show Kd.V k46 46 w w.heap.size (fun k_ => (P0_0_ k_ ∨ w.heap.size ≤ k_)) (.slice A0_0 l0_0.length c0_0) l0_0 from Kd.V_mono hs0_0 (fun k_ hk => .inl hk))
  have HR0_2 := Aside0.mk hr0_2
  have HC0_2 := Aside0.mk hc0_2
  clear hr0_2 hc0_2
  have HB := Aside0.mk (Below.refl w.heap.size w)
  have H : (pascalineref11_Find.l0 k a1 a0_1 l0_0 a0_1 l0_2) = some (r1, r2, r3, r4, r5, r6, r7, r8, r9) := h
  clear h
  have H' := Aside0.mk H
  clear H
  go_enter Try.func16, Try.ntmps16
  go_wp2_with (first | ((with_reducible refine gate_dst (N := 2) rfl ?_); refine box_event ?hg (N := 2) ?hd (cs := #[.slice A0_0 l0_0.length c0_0, .int .i64 a0_1, .slice A0_2 l0_2.length c0_2]) (t := 31) ?hr ?_; (case hd => rfl); (case hg => rfl); (case hr => first | (go_simp; done) | (go_simp; rfl)); intro gb115 hg w3 hbox hb; have n0_ := Aside0.mk (Kd.V_below (Kd.V_elderB (by (with_reducible repeat (first | apply Kd.V_alloc | apply Kd.V_drewN | apply Kd.V_drew)); exact HO0_0.out) gb115 (Nat.le_of_eq hg.symm)) hb); have n1_ := Aside0.mk (below_step (by repeat (first | (with_reducible first | exact HB.out | apply below_alloc | apply pw_below_drewN | apply below_drew1) | exact HB.out)) hb); have n2_ := Aside0.mk (hbox); have n3_ := Aside0.mk ((by rw [hg]; exact (below_size (by repeat (first | (with_reducible first | exact HB.out | apply below_alloc | apply pw_below_drewN | apply below_drew1) | exact HB.out))) : w.heap.size ≤ gb115)); have n4_ := Aside0.mk ((by rw [hg]; exact (below_size (by repeat (first | (with_reducible first | exact HB.out | apply below_alloc | apply pw_below_drewN | apply below_drew1) | exact HB.out))) : w.heap.size ≤ gb115)); clear HO0_0; clear HB; have HO0_0 := n0_; have HB := n1_; have BK115 := n2_; have GW115 := n3_; have GE115 := n4_; clear n0_ n1_ n2_ n3_ n4_; clear hb hbox hg) | ((with_reducible refine gate_dst (N := 4) rfl ?_); refine box_event ?hg (N := 4) ?hd (cs := #[.string (⟨#[]⟩ : ByteArray), .int .i64 0, .int .i64 0, .int .i64 0, .int .i32 0, .int .i64 0, .bool false, .slice none 0 0]) (t := 46) ?hr ?_; (case hd => rfl); (case hg => rfl); (case hr => first | (go_simp; done) | (go_simp; rfl)); intro gb116 hg w4 hbox hb; have n0_ := Aside0.mk (Kd.V_below (Kd.V_elderB (by (with_reducible repeat (first | apply Kd.V_alloc | apply Kd.V_drewN | apply Kd.V_drew)); exact HO0_0.out) gb116 (Nat.le_of_eq hg.symm)) hb); have n1_ := Aside0.mk (blk_below (g := gb115) (o := .cells #[.slice A0_0 l0_0.length c0_0, .int .i64 a0_1, .slice A0_2 l0_2.length c0_2] 31 (0, 0)) (by (with_reducible repeat (first | refine blk_drewN ?_ _ | refine blk_drew ?_ | refine blk_alloc ?_ _)); exact BK115.out) hb); have n2_ := Aside0.mk (below_step (by repeat (first | (with_reducible first | exact HB.out | apply below_alloc | apply pw_below_drewN | apply below_drew1 | refine below_set ?_ GE115.out) | exact HB.out)) hb); have n3_ := Aside0.mk (hbox); have n4_ := Aside0.mk ((by rw [hg]; exact (below_size (by repeat (first | (with_reducible first | exact HB.out | apply below_alloc | apply pw_below_drewN | apply below_drew1 | refine below_set ?_ GE115.out) | exact HB.out))) : w.heap.size ≤ gb116)); have n5_ := Aside0.mk ((by rw [hg]; exact (below_size (by repeat (first | (with_reducible first | exact HB.out | apply below_alloc | apply pw_below_drewN | apply below_drew1 | refine below_set ?_ GE115.out) | exact HB.out))) : w.heap.size ≤ gb116)); have n6_ := Aside0.mk ((by rw [hg]; exact Nat.ne_of_lt (blk_lt (g := gb115) (o := .cells #[.slice A0_0 l0_0.length c0_0, .int .i64 a0_1, .slice A0_2 l0_2.length c0_2] 31 (0, 0)) (by (with_reducible repeat (first | refine blk_drewN ?_ _ | refine blk_drew ?_ | refine blk_alloc ?_ _)); exact BK115.out)) : gb115 ≠ gb116)); have n7_ := Aside0.mk ((by rw [hg]; exact Nat.ne_of_gt (blk_lt (g := gb115) (o := .cells #[.slice A0_0 l0_0.length c0_0, .int .i64 a0_1, .slice A0_2 l0_2.length c0_2] 31 (0, 0)) (by (with_reducible repeat (first | refine blk_drewN ?_ _ | refine blk_drew ?_ | refine blk_alloc ?_ _)); exact BK115.out)) : gb116 ≠ gb115)); clear HO0_0; clear BK115; clear HB; have HO0_0 := n0_; have BK115 := n1_; have HB := n2_; have BK116 := n3_; have GW116 := n4_; have GE116 := n5_; have NB115_116 := n6_; have NB116_115 := n7_; clear n0_ n1_ n2_ n3_ n4_ n5_ n6_ n7_; clear hb hbox hg; have hnb5 := NB115_116.out; have hnc5 := NB116_115.out; have hcz6_0 : w4.cell? ⟨gb115, 0, none⟩ = some (.slice A0_0 l0_0.length c0_0) := (blk_cell BK115.out 0).trans rfl; have hcz6_1 : w4.cell? ⟨gb115, 1, none⟩ = some (.int .i64 a0_1) := (blk_cell BK115.out 1).trans rfl; have hcz6_2 : w4.cell? ⟨gb115, 2, none⟩ = some (.slice A0_2 l0_2.length c0_2) := (blk_cell BK115.out 2).trans rfl; have hfz6_0 := blk_frozen BK115.out 0; have hfz6_1 := blk_frozen BK115.out 1; have hfz6_2 := blk_frozen BK115.out 2))
  go_loopg [6] k (fun kq v6 w' => ∃ (x6_1 : Int) (x117000_1 : ByteArray) (x117001_1 : Int) (x117002_1 : Int) (x117003_1 : Int) (x117004_1 : Int) (x117005_1 : Int) (x117006_1 : Bool), v6 = .int .i64 x6_1 ∧ Aside0 (pascalineref11_Find.l0 kq a1 x6_1 l0_0 a0_1 l0_2 = some (r1, r2, r3, r4, r5, r6, r7, r8, r9)) ∧ Aside0 (kq ≤ k) ∧ Aside0 (Kd.V k46 46 w' w.heap.size (fun k_ => (P0_0_ k_ ∨ w.heap.size ≤ k_) ∧ k_ ≠ gb115 ∧ k_ ≠ gb116) (.slice A0_0 l0_0.length c0_0) l0_0) ∧ Aside0 (w'.heap[gb115]? = some (.cells #[(.slice A0_0 l0_0.length c0_0), .int .i64 a0_1, (.slice A0_2 l0_2.length c0_2)] 31 (0, 0))) ∧ Aside0 (w'.heap[gb116]? = some (.cells #[.string x117000_1, .int .i64 x117001_1, .int .i64 x117002_1, .int .i64 x117003_1, .int .i32 x117004_1, .int .i64 x117005_1, .bool x117006_1, (.slice none 0 0)] 46 (0, 0))) ∧ Aside0 (Below w.heap.size w w'))
  case atStart => exact ⟨(a0_1), ((⟨#[]⟩ : ByteArray)), (0), (0), (0), (0), (0), (false), (by first | rfl | (simp; done) | (simp [*]; done)), H', ⟨Nat.le_refl _⟩, ⟨by (with_reducible repeat (first | apply Kd.V_alloc | apply Kd.V_drewN | apply Kd.V_drew)); exact Kd.V_mono HO0_0.out (fun _ hk => ⟨hk.1.1, ⟨hk.1.2, hk.2⟩⟩)⟩, ⟨by (with_reducible repeat (first | refine blk_drewN ?_ _ | refine blk_drew ?_ | refine blk_alloc ?_ _)); exact BK115.out⟩, ⟨by (with_reducible repeat (first | refine blk_drewN ?_ _ | refine blk_drew ?_ | refine blk_alloc ?_ _)); exact BK116.out⟩, ⟨by repeat (first | (with_reducible first | exact HB.out | apply below_alloc | apply pw_below_drewN | apply below_drew1 | refine below_set ?_ GE115.out | refine below_set ?_ GE116.out) | exact HB.out)⟩⟩
  case round =>
    clear H'
    try clear c1
    try clear p2
    try clear c5
    try clear hcz6_0
    try clear hcz6_1
    try clear hcz6_2
    try clear hfz6_0
    try clear hfz6_1
    try clear hfz6_2
    obtain ⟨x6_1, x117000_1, x117001_1, x117002_1, x117003_1, x117004_1, x117005_1, x117006_1, rfl, HA, HK1, HO_116000, BK115, BK116, HB⟩ := hrel
    cases gk with
    | zero => exact absurd HA.out (by simp [pascalineref11_Find.l0])
    | succ k1 =>
      have H := HA.out
      clear HA
      simp only [pascalineref11_Find.l0] at H
      by_cases c7 : x6_1 ≥ 0
      · rw [if_pos c7] at H
        have c7b0 : decide (0 ≤ x6_1) = true := decide_eq_true c7
        clear c7
        replace H := Option.bind_eq_some_iff.mp H
        obtain ⟨t117, A80, H⟩ := H
        replace H : (if t117 ≥ 0 then (if 0 ≤ t117 then (if t117 < (l0_0.length : Int) then (some ((rd_T46 l0_0 t117).f0, (rd_T46 l0_0 t117).f1, (rd_T46 l0_0 t117).f2, (rd_T46 l0_0 t117).f3, (rd_T46 l0_0 t117).f4, (rd_T46 l0_0 t117).f5, (rd_T46 l0_0 t117).f6, (rd_T46 l0_0 t117).f7, 0)) else (none)) else (none)) else (pascalineref11_Find.l0 k1 a1 (wrap64 (x6_1 - 1)) l0_0 a0_1 l0_2)) = some (r1, r2, r3, r4, r5, r6, r7, r8, r9) := H
        have A8 := Aside0.mk A80
        clear A80
        by_cases c9 : t117 ≥ 0
        · rw [if_pos c9] at H
          have c9b0 : decide (0 ≤ t117) = true := decide_eq_true c9
          clear c9
          by_cases c10 : 0 ≤ t117
          · rw [if_pos c10] at H
            have c10b0 : decide (0 ≤ t117) = true := decide_eq_true c10
            clear c10
            by_cases c11 : t117 < (l0_0.length : Int)
            · rw [if_pos c11] at H
              have c11b0 : decide (t117 < (l0_0.length : Int)) = true := decide_eq_true c11
              clear c11
              simp only [Option.some.injEq, Prod.mk.injEq] at H
              obtain ⟨rfl, rfl, rfl, rfl, rfl, rfl, rfl, rfl, rfl⟩ := H
              have hnb12 := NB115_116.out
              have hnc12 := NB116_115.out
              have hcz13_0 : wr.cell? ⟨gb115, 0, none⟩ = some (.slice A0_0 l0_0.length c0_0) := (blk_cell BK115.out 0).trans rfl
              have hcz13_1 : wr.cell? ⟨gb115, 1, none⟩ = some (.int .i64 a0_1) := (blk_cell BK115.out 1).trans rfl
              have hcz13_2 : wr.cell? ⟨gb115, 2, none⟩ = some (.slice A0_2 l0_2.length c0_2) := (blk_cell BK115.out 2).trans rfl
              have hfz13_0 := blk_frozen BK115.out 0
              have hfz13_1 := blk_frozen BK115.out 1
              have hfz13_2 := blk_frozen BK115.out 2
              go_wp2_with (first | ((with_reducible refine gate_callee (f := 28) rfl ?_); refine goesL_ (some 17) rfl rfl Try.func28 (by kernel_rfl) rfl #[.agg #[.slice A0_0 l0_0.length c0_0, .int .i64 a0_1, .slice A0_2 l0_2.length c0_2], .int .i64 x6_1, .string a1] rfl (by (try simp only [List.map_toArray, List.map_cons, List.map_nil]); first | done | rfl | (simp only [List.length_drop, List.length_take]; rfl)) ?_; (with_reducible refine (pascalineref11_at.calls k1 _ _ l0_0 a0_1 _ _ l0_2 x6_1 a1 t117 _ ?side1 ?side2 ?side3 ?side4 A8.out).mono ?_); (case side1 => repeat (first | exact (Kd.V_reads' HO_116000.out).2.2 | (with_reducible refine Kd.C_alloc ?_ _) | (with_reducible refine Kd.C_drewN ?_ _) | (with_reducible refine Kd.C_drew ?_))); (case side2 => exact (Kd.V_reads' HO_116000.out).2.1); (case side3 => repeat (first | exact (Kd.C_below HR0_2.out HB.out) | (with_reducible refine Kd.C_alloc ?_ _) | (with_reducible refine Kd.C_drewN ?_ _) | (with_reducible refine Kd.C_drew ?_))); (case side4 => exact HC0_2.out); rintro e w14 ⟨rfl, hb⟩; refine ⟨_, rfl, ?_⟩; have n0_ := Aside0.mk (Kd.V_below (by (with_reducible repeat (first | apply Kd.V_alloc | apply Kd.V_drewN | apply Kd.V_drew)); exact HO_116000.out) hb); have n1_ := Aside0.mk (blk_below (g := gb115) (o := .cells #[.slice A0_0 l0_0.length c0_0, .int .i64 a0_1, .slice A0_2 l0_2.length c0_2] 31 (0, 0)) (by (with_reducible repeat (first | refine blk_drewN ?_ _ | refine blk_drew ?_ | refine blk_alloc ?_ _)); exact BK115.out) hb); have n2_ := Aside0.mk (blk_below (g := gb116) (o := .cells #[.string x117000_1, .int .i64 x117001_1, .int .i64 x117002_1, .int .i64 x117003_1, .int .i32 x117004_1, .int .i64 x117005_1, .bool x117006_1, .slice none 0 0] 46 (0, 0)) (by (with_reducible repeat (first | refine blk_drewN ?_ _ | refine blk_drew ?_ | refine blk_alloc ?_ _)); exact BK116.out) hb); have n3_ := Aside0.mk (below_step (by repeat (first | (with_reducible first | exact HB.out | apply below_alloc | apply pw_below_drewN | apply below_drew1 | refine below_set ?_ GE115.out | refine below_set ?_ GE116.out) | exact HB.out)) hb); clear HO_116000; clear BK115; clear BK116; clear HB; have HO_116000 := n0_; have BK115 := n1_; have BK116 := n2_; have HB := n3_; clear n0_ n1_ n2_ n3_; (try clear hb); (try clear hb2); (try clear hk); (try clear hi); have hcz15_0 : w14.cell? ⟨gb115, 0, none⟩ = some (.slice A0_0 l0_0.length c0_0) := (blk_cell BK115.out 0).trans rfl; have hcz15_1 : w14.cell? ⟨gb115, 1, none⟩ = some (.int .i64 a0_1) := (blk_cell BK115.out 1).trans rfl; have hcz15_2 : w14.cell? ⟨gb115, 2, none⟩ = some (.slice A0_2 l0_2.length c0_2) := (blk_cell BK115.out 2).trans rfl; have hfz15_0 := blk_frozen BK115.out 0; have hfz15_1 := blk_frozen BK115.out 1; have hfz15_2 := blk_frozen BK115.out 2; have p118 : 0 ≤ (t117 : Int) := of_decide_eq_true (by first | (with_reducible assumption) | assumption); have q118 : t117 < (l0_0.length : Int) := of_decide_eq_true (by first | (with_reducible assumption) | assumption); obtain ⟨ad118, A118_7, c118_7, e118, hx118_0, hx118_1, hx118_2, hx118_3, hx118_4, hx118_5, hx118_6, hx118_7, hl118_7, hi118_7⟩ := at_T46 (Kd.V_reads' HO_116000.out).2.2 t117 p118 q118; cases e118; obtain ⟨ce118, hce118, hMe118, hcc118⟩ := Kd.V_get HO_116000.out z46 t117 p118 (by first | exact q118 | exact of_decide_eq_true (by first | (with_reducible assumption) | assumption) | (have e_ := (Kd.V_reads' HO_116000.out).1; omega)); obtain ⟨ua118_7, uc118_7, rfl, ul118_7, ge118_7⟩ := k46_openF hMe118; have hv118_7 := hcc118 7 _ rfl; rw [add_field _ _ 7 (by omega)] at hv118_7; replace hv118_7 := Option.some.inj (hv118_7.symm.trans hx118_7); injection hv118_7 with hva_ hvn_ hvc_; rw [hva_] at ge118_7; rw [hvc_] at ul118_7; have HL118_7 := Aside0.mk (show Kd.V k69 69 _ w.heap.size _ _ ((rd_T46 l0_0 t117).f7) from Kd.V_mk ul118_7 ge118_7); clear hva_ hvn_ hvc_ ge118_7 ul118_7; clear hcc118 hce118; have HR118_7 := Aside0.mk hi118_7; have HC118_7 := Aside0.mk hl118_7; clear hi118_7 hl118_7; replace p118 := eq_true p118; replace q118 := eq_true q118; have hcz16_0 : w14.cell? ⟨gb116, 0, none⟩ = some (.string x117000_1) := (blk_cell BK116.out 0).trans rfl; have hcz16_1 : w14.cell? ⟨gb116, 1, none⟩ = some (.int .i64 x117001_1) := (blk_cell BK116.out 1).trans rfl; have hcz16_2 : w14.cell? ⟨gb116, 2, none⟩ = some (.int .i64 x117002_1) := (blk_cell BK116.out 2).trans rfl; have hcz16_3 : w14.cell? ⟨gb116, 3, none⟩ = some (.int .i64 x117003_1) := (blk_cell BK116.out 3).trans rfl; have hcz16_4 : w14.cell? ⟨gb116, 4, none⟩ = some (.int .i32 x117004_1) := (blk_cell BK116.out 4).trans rfl; have hcz16_5 : w14.cell? ⟨gb116, 5, none⟩ = some (.int .i64 x117005_1) := (blk_cell BK116.out 5).trans rfl; have hcz16_6 : w14.cell? ⟨gb116, 6, none⟩ = some (.bool x117006_1) := (blk_cell BK116.out 6).trans rfl; have hcz16_7 : w14.cell? ⟨gb116, 7, none⟩ = some (.slice none 0 0) := (blk_cell BK116.out 7).trans rfl; have hfz16_0 := blk_frozen BK116.out 0; have hfz16_1 := blk_frozen BK116.out 1; have hfz16_2 := blk_frozen BK116.out 2; have hfz16_3 := blk_frozen BK116.out 3; have hfz16_4 := blk_frozen BK116.out 4; have hfz16_5 := blk_frozen BK116.out 5; have hfz16_6 := blk_frozen BK116.out 6; have hfz16_7 := blk_frozen BK116.out 7))
              refine bodyPost_ret (results_ct rfl _ _ gb116 46 #[.string ((rd_T46 l0_0 t117).f0), .int .i64 ((rd_T46 l0_0 t117).f1), .int .i64 ((rd_T46 l0_0 t117).f2), .int .i64 ((rd_T46 l0_0 t117).f3), .int .i32 ((rd_T46 l0_0 t117).f4), .int .i64 ((rd_T46 l0_0 t117).f5), .bool ((rd_T46 l0_0 t117).f6), .slice A118_7 ((rd_T46 l0_0 t117).f7).length c118_7] (0, 0) _ rfl (by (with_reducible repeat (first | refine blk_drewN ?_ _ | refine blk_drew ?_ | refine blk_alloc ?_ _)); refine blk_put (cs := #[.string ((rd_T46 l0_0 t117).f0), .int .i64 ((rd_T46 l0_0 t117).f1), .int .i64 ((rd_T46 l0_0 t117).f2), .int .i64 ((rd_T46 l0_0 t117).f3), .int .i32 ((rd_T46 l0_0 t117).f4), .int .i64 ((rd_T46 l0_0 t117).f5), .bool ((rd_T46 l0_0 t117).f6), .slice none 0 0]) ?_ 7 _ rfl; (with_reducible repeat (first | refine blk_drewN ?_ _ | refine blk_drew ?_ | refine blk_alloc ?_ _)); refine blk_put (cs := #[.string ((rd_T46 l0_0 t117).f0), .int .i64 ((rd_T46 l0_0 t117).f1), .int .i64 ((rd_T46 l0_0 t117).f2), .int .i64 ((rd_T46 l0_0 t117).f3), .int .i32 ((rd_T46 l0_0 t117).f4), .int .i64 ((rd_T46 l0_0 t117).f5), .bool x117006_1, .slice none 0 0]) ?_ 6 _ rfl; (with_reducible repeat (first | refine blk_drewN ?_ _ | refine blk_drew ?_ | refine blk_alloc ?_ _)); refine blk_put (cs := #[.string ((rd_T46 l0_0 t117).f0), .int .i64 ((rd_T46 l0_0 t117).f1), .int .i64 ((rd_T46 l0_0 t117).f2), .int .i64 ((rd_T46 l0_0 t117).f3), .int .i32 ((rd_T46 l0_0 t117).f4), .int .i64 x117005_1, .bool x117006_1, .slice none 0 0]) ?_ 5 _ rfl; (with_reducible repeat (first | refine blk_drewN ?_ _ | refine blk_drew ?_ | refine blk_alloc ?_ _)); refine blk_put (cs := #[.string ((rd_T46 l0_0 t117).f0), .int .i64 ((rd_T46 l0_0 t117).f1), .int .i64 ((rd_T46 l0_0 t117).f2), .int .i64 ((rd_T46 l0_0 t117).f3), .int .i32 x117004_1, .int .i64 x117005_1, .bool x117006_1, .slice none 0 0]) ?_ 4 _ rfl; (with_reducible repeat (first | refine blk_drewN ?_ _ | refine blk_drew ?_ | refine blk_alloc ?_ _)); refine blk_put (cs := #[.string ((rd_T46 l0_0 t117).f0), .int .i64 ((rd_T46 l0_0 t117).f1), .int .i64 ((rd_T46 l0_0 t117).f2), .int .i64 x117003_1, .int .i32 x117004_1, .int .i64 x117005_1, .bool x117006_1, .slice none 0 0]) ?_ 3 _ rfl; (with_reducible repeat (first | refine blk_drewN ?_ _ | refine blk_drew ?_ | refine blk_alloc ?_ _)); refine blk_put (cs := #[.string ((rd_T46 l0_0 t117).f0), .int .i64 ((rd_T46 l0_0 t117).f1), .int .i64 x117002_1, .int .i64 x117003_1, .int .i32 x117004_1, .int .i64 x117005_1, .bool x117006_1, .slice none 0 0]) ?_ 2 _ rfl; (with_reducible repeat (first | refine blk_drewN ?_ _ | refine blk_drew ?_ | refine blk_alloc ?_ _)); refine blk_put (cs := #[.string ((rd_T46 l0_0 t117).f0), .int .i64 x117001_1, .int .i64 x117002_1, .int .i64 x117003_1, .int .i32 x117004_1, .int .i64 x117005_1, .bool x117006_1, .slice none 0 0]) ?_ 1 _ rfl; (with_reducible repeat (first | refine blk_drewN ?_ _ | refine blk_drew ?_ | refine blk_alloc ?_ _)); refine blk_put (cs := #[.string x117000_1, .int .i64 x117001_1, .int .i64 x117002_1, .int .i64 x117003_1, .int .i32 x117004_1, .int .i64 x117005_1, .bool x117006_1, .slice none 0 0]) ?_ 0 _ rfl; (with_reducible repeat (first | refine blk_drewN ?_ _ | refine blk_drew ?_ | refine blk_alloc ?_ _)); exact BK116.out) Try.underlying46 rfl (by kernel_rfl)) rfl ?_
              exact ⟨_, by first | rfl | (simp [errW_none, errW_some] <;> rfl) | (simp [*, errW_none, errW_some] <;> rfl), by (with_reducible repeat (first | apply Kd.V_alloc | apply Kd.V_drewN | apply Kd.V_drew)); exact Kd.V_mono (Kd.V_far (p := ⟨gb116, 7, none⟩) (Kd.V_far (p := ⟨gb116, 6, none⟩) (Kd.V_far (p := ⟨gb116, 5, none⟩) (Kd.V_far (p := ⟨gb116, 4, none⟩) (Kd.V_far (p := ⟨gb116, 3, none⟩) (Kd.V_far (p := ⟨gb116, 2, none⟩) (Kd.V_far (p := ⟨gb116, 1, none⟩) (Kd.V_far (p := ⟨gb116, 0, none⟩) (Kd.V_mono HL118_7.out (fun k_ hk => (⟨hk, hk.2.2⟩ : _ ∧ k_ ≠ gb116))) (fun _ hk => hk.2) (.string ((rd_T46 l0_0 t117).f0))) (fun _ hk => hk.2) (.int .i64 ((rd_T46 l0_0 t117).f1))) (fun _ hk => hk.2) (.int .i64 ((rd_T46 l0_0 t117).f2))) (fun _ hk => hk.2) (.int .i64 ((rd_T46 l0_0 t117).f3))) (fun _ hk => hk.2) (.int .i32 ((rd_T46 l0_0 t117).f4))) (fun _ hk => hk.2) (.int .i64 ((rd_T46 l0_0 t117).f5))) (fun _ hk => hk.2) (.bool ((rd_T46 l0_0 t117).f6))) (fun _ hk => hk.2) (.slice A118_7 ((rd_T46 l0_0 t117).f7).length c118_7)) (fun _ hk => hk.1.1), by repeat (first | (with_reducible first | exact HB.out | apply below_alloc | apply pw_below_drewN | apply below_drew1 | refine below_set ?_ GE115.out | refine below_set ?_ GE116.out) | exact HB.out)⟩
            · rw [if_neg c11] at H
              exact absurd H (by simp)
          · rw [if_neg c10] at H
            exact absurd H (by simp)
        · rw [if_neg c9] at H
          have c9b0 : decide (0 ≤ t117) = false := decide_eq_false c9
          clear c9
          have H' := Aside0.mk H
          clear H
          have hnb17 := NB115_116.out
          have hnc17 := NB116_115.out
          have hcz18_0 : wr.cell? ⟨gb115, 0, none⟩ = some (.slice A0_0 l0_0.length c0_0) := (blk_cell BK115.out 0).trans rfl
          have hcz18_1 : wr.cell? ⟨gb115, 1, none⟩ = some (.int .i64 a0_1) := (blk_cell BK115.out 1).trans rfl
          have hcz18_2 : wr.cell? ⟨gb115, 2, none⟩ = some (.slice A0_2 l0_2.length c0_2) := (blk_cell BK115.out 2).trans rfl
          have hfz18_0 := blk_frozen BK115.out 0
          have hfz18_1 := blk_frozen BK115.out 1
          have hfz18_2 := blk_frozen BK115.out 2
          go_wp2_with (first | ((with_reducible refine gate_callee (f := 28) rfl ?_); refine goesL_ (some 17) rfl rfl Try.func28 (by kernel_rfl) rfl #[.agg #[.slice A0_0 l0_0.length c0_0, .int .i64 a0_1, .slice A0_2 l0_2.length c0_2], .int .i64 x6_1, .string a1] rfl (by (try simp only [List.map_toArray, List.map_cons, List.map_nil]); first | done | rfl | (simp only [List.length_drop, List.length_take]; rfl)) ?_; (with_reducible refine (pascalineref11_at.calls k1 _ _ l0_0 a0_1 _ _ l0_2 x6_1 a1 t117 _ ?side1 ?side2 ?side3 ?side4 A8.out).mono ?_); (case side1 => repeat (first | exact (Kd.V_reads' HO_116000.out).2.2 | (with_reducible refine Kd.C_alloc ?_ _) | (with_reducible refine Kd.C_drewN ?_ _) | (with_reducible refine Kd.C_drew ?_))); (case side2 => exact (Kd.V_reads' HO_116000.out).2.1); (case side3 => repeat (first | exact (Kd.C_below HR0_2.out HB.out) | (with_reducible refine Kd.C_alloc ?_ _) | (with_reducible refine Kd.C_drewN ?_ _) | (with_reducible refine Kd.C_drew ?_))); (case side4 => exact HC0_2.out); rintro e w19 ⟨rfl, hb⟩; refine ⟨_, rfl, ?_⟩; have n0_ := Aside0.mk (Kd.V_below (by (with_reducible repeat (first | apply Kd.V_alloc | apply Kd.V_drewN | apply Kd.V_drew)); exact HO_116000.out) hb); have n1_ := Aside0.mk (blk_below (g := gb115) (o := .cells #[.slice A0_0 l0_0.length c0_0, .int .i64 a0_1, .slice A0_2 l0_2.length c0_2] 31 (0, 0)) (by (with_reducible repeat (first | refine blk_drewN ?_ _ | refine blk_drew ?_ | refine blk_alloc ?_ _)); exact BK115.out) hb); have n2_ := Aside0.mk (blk_below (g := gb116) (o := .cells #[.string x117000_1, .int .i64 x117001_1, .int .i64 x117002_1, .int .i64 x117003_1, .int .i32 x117004_1, .int .i64 x117005_1, .bool x117006_1, .slice none 0 0] 46 (0, 0)) (by (with_reducible repeat (first | refine blk_drewN ?_ _ | refine blk_drew ?_ | refine blk_alloc ?_ _)); exact BK116.out) hb); have n3_ := Aside0.mk (below_step (by repeat (first | (with_reducible first | exact HB.out | apply below_alloc | apply pw_below_drewN | apply below_drew1 | refine below_set ?_ GE115.out | refine below_set ?_ GE116.out) | exact HB.out)) hb); clear HO_116000; clear BK115; clear BK116; clear HB; have HO_116000 := n0_; have BK115 := n1_; have BK116 := n2_; have HB := n3_; clear n0_ n1_ n2_ n3_; (try clear hb); (try clear hb2); (try clear hk); (try clear hi)))
          go_roundg k1
          case measure => have := HK1.out; omega
          case rel => exact ⟨(wrap64 (x6_1 - 1)), (x117000_1), (x117001_1), (x117002_1), (x117003_1), (x117004_1), (x117005_1), (x117006_1), (by first | rfl | (simp; done) | (simp [*]; done)), H', ⟨by have := HK1.out; omega⟩, ⟨by (with_reducible repeat (first | apply Kd.V_alloc | apply Kd.V_drewN | apply Kd.V_drew)); exact HO_116000.out⟩, ⟨by (with_reducible repeat (first | refine blk_drewN ?_ _ | refine blk_drew ?_ | refine blk_alloc ?_ _)); exact BK115.out⟩, ⟨by (with_reducible repeat (first | refine blk_drewN ?_ _ | refine blk_drew ?_ | refine blk_alloc ?_ _)); exact BK116.out⟩, ⟨by repeat (first | (with_reducible first | exact HB.out | apply below_alloc | apply pw_below_drewN | apply below_drew1 | refine below_set ?_ GE115.out | refine below_set ?_ GE116.out) | exact HB.out)⟩⟩
      · rw [if_neg c7] at H
        have c7b0 : decide (0 ≤ x6_1) = false := decide_eq_false c7
        clear c7
        simp only [Option.some.injEq, Prod.mk.injEq] at H
        obtain ⟨rfl, rfl, rfl, rfl, rfl, rfl, rfl, rfl, rfl⟩ := H
        have hnb20 := NB116_115.out
        have hnc20 := NB115_116.out
        have hcz21_0 : wr.cell? ⟨gb116, 0, none⟩ = some (.string x117000_1) := (blk_cell BK116.out 0).trans rfl
        have hcz21_1 : wr.cell? ⟨gb116, 1, none⟩ = some (.int .i64 x117001_1) := (blk_cell BK116.out 1).trans rfl
        have hcz21_2 : wr.cell? ⟨gb116, 2, none⟩ = some (.int .i64 x117002_1) := (blk_cell BK116.out 2).trans rfl
        have hcz21_3 : wr.cell? ⟨gb116, 3, none⟩ = some (.int .i64 x117003_1) := (blk_cell BK116.out 3).trans rfl
        have hcz21_4 : wr.cell? ⟨gb116, 4, none⟩ = some (.int .i32 x117004_1) := (blk_cell BK116.out 4).trans rfl
        have hcz21_5 : wr.cell? ⟨gb116, 5, none⟩ = some (.int .i64 x117005_1) := (blk_cell BK116.out 5).trans rfl
        have hcz21_6 : wr.cell? ⟨gb116, 6, none⟩ = some (.bool x117006_1) := (blk_cell BK116.out 6).trans rfl
        have hcz21_7 : wr.cell? ⟨gb116, 7, none⟩ = some (.slice none 0 0) := (blk_cell BK116.out 7).trans rfl
        have hfz21_0 := blk_frozen BK116.out 0
        have hfz21_1 := blk_frozen BK116.out 1
        have hfz21_2 := blk_frozen BK116.out 2
        have hfz21_3 := blk_frozen BK116.out 3
        have hfz21_4 := blk_frozen BK116.out 4
        have hfz21_5 := blk_frozen BK116.out 5
        have hfz21_6 := blk_frozen BK116.out 6
        have hfz21_7 := blk_frozen BK116.out 7
        go_wp2
        refine bodyPost_ret (results_ct rfl _ _ gb116 46 #[.string (⟨#[]⟩ : ByteArray), .int .i64 0, .int .i64 0, .int .i64 0, .int .i32 0, .int .i64 0, .bool false, .slice none 0 0] (0, 0) _ rfl (by (with_reducible repeat (first | refine blk_drewN ?_ _ | refine blk_drew ?_ | refine blk_alloc ?_ _)); refine blk_put (cs := #[.string (⟨#[]⟩ : ByteArray), .int .i64 0, .int .i64 0, .int .i64 0, .int .i32 0, .int .i64 0, .bool false, .slice none 0 0]) ?_ 7 _ rfl; (with_reducible repeat (first | refine blk_drewN ?_ _ | refine blk_drew ?_ | refine blk_alloc ?_ _)); refine blk_put (cs := #[.string (⟨#[]⟩ : ByteArray), .int .i64 0, .int .i64 0, .int .i64 0, .int .i32 0, .int .i64 0, .bool x117006_1, .slice none 0 0]) ?_ 6 _ rfl; (with_reducible repeat (first | refine blk_drewN ?_ _ | refine blk_drew ?_ | refine blk_alloc ?_ _)); refine blk_put (cs := #[.string (⟨#[]⟩ : ByteArray), .int .i64 0, .int .i64 0, .int .i64 0, .int .i32 0, .int .i64 x117005_1, .bool x117006_1, .slice none 0 0]) ?_ 5 _ rfl; (with_reducible repeat (first | refine blk_drewN ?_ _ | refine blk_drew ?_ | refine blk_alloc ?_ _)); refine blk_put (cs := #[.string (⟨#[]⟩ : ByteArray), .int .i64 0, .int .i64 0, .int .i64 0, .int .i32 x117004_1, .int .i64 x117005_1, .bool x117006_1, .slice none 0 0]) ?_ 4 _ rfl; (with_reducible repeat (first | refine blk_drewN ?_ _ | refine blk_drew ?_ | refine blk_alloc ?_ _)); refine blk_put (cs := #[.string (⟨#[]⟩ : ByteArray), .int .i64 0, .int .i64 0, .int .i64 x117003_1, .int .i32 x117004_1, .int .i64 x117005_1, .bool x117006_1, .slice none 0 0]) ?_ 3 _ rfl; (with_reducible repeat (first | refine blk_drewN ?_ _ | refine blk_drew ?_ | refine blk_alloc ?_ _)); refine blk_put (cs := #[.string (⟨#[]⟩ : ByteArray), .int .i64 0, .int .i64 x117002_1, .int .i64 x117003_1, .int .i32 x117004_1, .int .i64 x117005_1, .bool x117006_1, .slice none 0 0]) ?_ 2 _ rfl; (with_reducible repeat (first | refine blk_drewN ?_ _ | refine blk_drew ?_ | refine blk_alloc ?_ _)); refine blk_put (cs := #[.string (⟨#[]⟩ : ByteArray), .int .i64 x117001_1, .int .i64 x117002_1, .int .i64 x117003_1, .int .i32 x117004_1, .int .i64 x117005_1, .bool x117006_1, .slice none 0 0]) ?_ 1 _ rfl; (with_reducible repeat (first | refine blk_drewN ?_ _ | refine blk_drew ?_ | refine blk_alloc ?_ _)); refine blk_put (cs := #[.string x117000_1, .int .i64 x117001_1, .int .i64 x117002_1, .int .i64 x117003_1, .int .i32 x117004_1, .int .i64 x117005_1, .bool x117006_1, .slice none 0 0]) ?_ 0 _ rfl; (with_reducible repeat (first | refine blk_drewN ?_ _ | refine blk_drew ?_ | refine blk_alloc ?_ _)); exact BK116.out) Try.underlying46 rfl (by kernel_rfl)) rfl ?_
        exact ⟨_, by first | rfl | (simp [errW_none, errW_some] <;> rfl) | (simp [*, errW_none, errW_some] <;> rfl), Kd.V_nil _ _ _ _ _, by repeat (first | (with_reducible first | exact HB.out | apply below_alloc | apply pw_below_drewN | apply below_drew1 | refine below_set ?_ GE115.out | refine below_set ?_ GE116.out) | exact HB.out)⟩

end Go.Proofs.Ytkgjpelddncfdaa.P

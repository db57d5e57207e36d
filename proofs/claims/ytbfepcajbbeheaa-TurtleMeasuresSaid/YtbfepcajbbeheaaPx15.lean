-- Written by a program of this session (wip/tools/hp.py) out of the translation.
import Derived.Test.YtbfepcajbbeheaaPx0
import Derived.Test.YtbfepcajbbeheaaPx9
import Derived.Test.YtbfepcajbbeheaaPx11
namespace Go.Proofs.Ytbfepcajbbeheaa.P
open Go.RowKit Go.Proofs.YtbfepcajbbeheaaW.PrintWords Go.Proofs.YtbfepcajbbeheaaW.PrintLast Go.Proofs.YtbfepcajbbeheaaW.PrintMore
attribute [local go_sem] max2_int min2_int max_two min_two max_three min_three max_four min_four   -- for this text's walks alone
set_option linter.unusedVariables false
set_option linter.unusedSimpArgs false

/-! ### pascalineref32_Draw: function 15 -/
mutual
def pascalineref32_Draw.l0 : Nat → List (S72) → List Int → Int → Option (Int × Int × Int × Int × Int × Bool × (List (S70)) × Int × Int)
  | 0, _, _, _ => none
  | k + 1, x0, x5, x6 => if x6 < (x0.length : Int) then (if 0 ≤ x6 then (if ((rd_T72 x0 x6).f0) = 0 then (if x5.length < 35184372088832 then (pascalineref32_Draw.l0 k x0 (x5 ++ [(rd_T72 x0 x6).f1]) (wrap64 (x6 + 1))) else (none)) else (pascalineref32_Draw.l0 k x0 x5 (wrap64 (x6 + 1)))) else (none)) else ((pascalineref32_New.f).bind fun bt169 => (pascalineref32_Draw.l1 k x5 0 bt169.1 bt169.2.1 bt169.2.2.1 bt169.2.2.2.1 bt169.2.2.2.2.1 bt169.2.2.2.2.2.1 bt169.2.2.2.2.2.2))
def pascalineref32_Draw.l1 : Nat → List Int → Int → Int → Int → Int → Int → Int → Bool → List (S70) → Option (Int × Int × Int × Int × Int × Bool × (List (S70)) × Int × Int)
  | 0, _, _, _, _, _, _, _, _, _ => none
  | k + 1, x5, x8, x179000, x179001, x179002, x179003, x179004, x179005, x179006 => if (wrap64 (x8 + 1)) < (x5.length : Int) then (if 0 ≤ x8 then (if x8 < (x5.length : Int) then (if 0 ≤ (wrap64 (x8 + 1)) then ((pascalineref32_Do.f k x179000 x179001 x179002 x179003 x179004 x179005 x179006 (rd x5 x8) (rd x5 (wrap64 (x8 + 1)))).bind fun bt181 => (if bt181.2.2.2.2.2.2.2 = 0 then (pascalineref32_Draw.l1 k x5 (wrap64 (x8 + 2)) bt181.1 bt181.2.1 bt181.2.2.1 bt181.2.2.2.1 bt181.2.2.2.2.1 bt181.2.2.2.2.2.1 bt181.2.2.2.2.2.2.1) else (some (bt181.1, bt181.2.1, bt181.2.2.1, bt181.2.2.2.1, bt181.2.2.2.2.1, bt181.2.2.2.2.2.1, bt181.2.2.2.2.2.2.1, wrap64 (Int.tdiv x8 2), bt181.2.2.2.2.2.2.2)))) else (none)) else (none)) else (none)) else (some (x179000, x179001, x179002, x179003, x179004, x179005, x179006, wrap64 ((x5.length : Int) / 2), 0))
end
def pascalineref32_Draw.f (k : Nat) (l0 : List (S72)) : Option (Int × Int × Int × Int × Int × Bool × (List (S70)) × Int × Int) := pascalineref32_Draw.l0 k l0 ([] : List Int) 0
theorem pascalineref32_Draw.mono_l : ∀ k, (∀ y0 y1 y2, LeO (pascalineref32_Draw.l0 k y0 y1 y2) (pascalineref32_Draw.l0 (k + 1) y0 y1 y2)) ∧ (∀ y0 y1 y2 y3 y4 y5 y6 y7 y8, LeO (pascalineref32_Draw.l1 k y0 y1 y2 y3 y4 y5 y6 y7 y8) (pascalineref32_Draw.l1 (k + 1) y0 y1 y2 y3 y4 y5 y6 y7 y8))
  | 0 => ⟨fun _ _ _ r h => by simp [pascalineref32_Draw.l0] at h, fun _ _ _ _ _ _ _ _ _ r h => by simp [pascalineref32_Draw.l1] at h⟩
  | k + 1 => by
    obtain ⟨ih0, ih1⟩ := pascalineref32_Draw.mono_l k
    refine ⟨?_, ?_⟩
    · intro y0 y1 y2
      unfold pascalineref32_Draw.l0
      repeat' first
      | (with_reducible exact ih0 _ _ _)
      | (with_reducible exact ih1 _ _ _ _ _ _ _ _ _)
      | (with_reducible exact pascalineref32_Do.mono _ _ _ _ _ _ _ _ _ _)
      | (with_reducible exact LeO.refl _)
      | (with_reducible exact LeO.none _)
      | (with_reducible refine LeO.ite ?_ ?_)
      | (with_reducible refine LeO.bind ?_ (fun _ => ?_))
      | exact ih0 _ _ _
      | exact ih1 _ _ _ _ _ _ _ _ _
      | exact pascalineref32_Do.mono _ _ _ _ _ _ _ _ _ _
      | exact LeO.none _
      | refine LeO.ite ?_ ?_
      | refine LeO.bind ?_ (fun _ => ?_)
    · intro y0 y1 y2 y3 y4 y5 y6 y7 y8
      unfold pascalineref32_Draw.l1
      repeat' first
      | (with_reducible exact ih0 _ _ _)
      | (with_reducible exact ih1 _ _ _ _ _ _ _ _ _)
      | (with_reducible exact pascalineref32_Do.mono _ _ _ _ _ _ _ _ _ _)
      | (with_reducible exact LeO.refl _)
      | (with_reducible exact LeO.none _)
      | (with_reducible refine LeO.ite ?_ ?_)
      | (with_reducible refine LeO.bind ?_ (fun _ => ?_))
      | exact ih0 _ _ _
      | exact ih1 _ _ _ _ _ _ _ _ _
      | exact pascalineref32_Do.mono _ _ _ _ _ _ _ _ _ _
      | exact LeO.none _
      | refine LeO.ite ?_ ?_
      | refine LeO.bind ?_ (fun _ => ?_)
theorem pascalineref32_Draw.mono : ∀ a0 k, LeO (pascalineref32_Draw.f k a0) (pascalineref32_Draw.f (k + 1) a0) := by
  intro a0 k
  obtain ⟨ih0, ih1⟩ := pascalineref32_Draw.mono_l k
  unfold pascalineref32_Draw.f
  repeat' first
      | (with_reducible exact ih0 _ _ _)
      | (with_reducible exact ih1 _ _ _ _ _ _ _ _ _)
      | (with_reducible exact pascalineref32_Do.mono _ _ _ _ _ _ _ _ _ _)
      | (with_reducible exact LeO.refl _)
      | (with_reducible exact LeO.none _)
      | (with_reducible refine LeO.ite ?_ ?_)
      | (with_reducible refine LeO.bind ?_ (fun _ => ?_))
      | exact ih0 _ _ _
      | exact ih1 _ _ _ _ _ _ _ _ _
      | exact pascalineref32_Do.mono _ _ _ _ _ _ _ _ _ _
      | exact LeO.none _
      | refine LeO.ite ?_ ?_
      | refine LeO.bind ?_ (fun _ => ?_)
def pascalineref32_Draw.T11 : Bool × List (List Nat × List Nat) := (true, [([], []), ([], []), ([], []), ([1, 2], [1, 2]), ([3], [3]), ([], []), ([], []), ([6], [6]), ([5, 7], [5, 7]), ([8], [8]), ([0, 4, 9], [0, 4, 9]), ([10], [10]), ([11], [11]), ([11], [11]), ([], []), ([14, 12, 10, 0, 1, 2, 3, 4, 5, 6, 7, 8, 9, 10, 11, 12, 14], [12, 14]), ([13, 15, 0, 1, 2, 3, 4, 5, 6, 7, 8, 9, 10, 11, 12, 13, 14, 15], [13])])
def pascalineref32_Draw.B11 : List Nat := [0, 0, 0, 6, 14, 0, 0, 64, 224, 480, 1023, 2047, 4095, 4095, 0, 24575, 65535]
theorem pascalineref32_Draw.tab11 : rtab .any (opsOf Try.f15 11) = pascalineref32_Draw.T11 := by kernel_rfl
theorem pascalineref32_Draw.bits11 : waitsOk pascalineref32_Draw.T11.2 pascalineref32_Draw.B11 = true := by kernel_rfl
set_option maxHeartbeats 8000000 in
set_option maxRecDepth 100000 in
theorem pascalineref32_Draw.calls (k : Nat) (A0 : Option Addr) (c0 : Nat) (l0 : List (S72)) (r1 : Int) (r2 : Int) (r3 : Int) (r4 : Int) (r5 : Int) (r6 : Bool) (r7 : List (S70)) (r8 : Int) (r9 : Int) (w : World) (hr0 : Kd.C k72 w A0 l0.length l0) (hc0 : l0.length ≤ c0) (h : pascalineref32_Draw.f k l0 = some (r1, r2, r3, r4, r5, r6, r7, r8, r9)) :
    Calls Try.prog 15 #[.slice A0 l0.length c0] w fun e w' => ∃ v6_ : Value, e = .returned (.tuple #[.agg #[.int .i64 r1, .int .i64 r2, .int .i64 r3, .int .i64 r4, .int .i64 r5, .bool r6, v6_], .int .i64 r8, .int .i64 r9]) ∧ Kd.R k70 70 w' w.heap.size (fun _ => True) v6_ r7 ∧ Below w.heap.size w w' := by
  have hu28 := Try.underlying28
  have HR0 := Aside0.mk hr0
  have HC0 := Aside0.mk hc0
  clear hr0 hc0
  have HB := Aside0.mk (Below.refl w.heap.size w)
  have H : (pascalineref32_Draw.l0 k l0 ([] : List Int) 0) = some (r1, r2, r3, r4, r5, r6, r7, r8, r9) := h
  clear h
  have H' := Aside0.mk H
  clear H
  go_enter Try.func15, Try.ntmps15
  go_wp2_with (first | ((with_reducible refine gate_dst (N := 2) rfl ?_); refine box_event ?hg (N := 2) ?hd (cs := #[.int .i64 0, .int .i64 0, .int .i64 0, .int .i64 0, .int .i64 0, .bool false, .slice none 0 0]) (t := 28) ?hr ?_; (case hd => rfl); (case hg => rfl); (case hr => first | (go_simp; done) | (go_simp; rfl)); intro gb163 hg w2 hbox hb; have n0_ := Aside0.mk (below_step (by repeat (first | (with_reducible first | exact HB.out | apply below_alloc | apply pw_below_drewN | apply below_drew1) | exact HB.out)) hb); have n1_ := Aside0.mk (hbox); have n2_ := Aside0.mk ((by rw [hg]; exact (below_size (by repeat (first | (with_reducible first | exact HB.out | apply below_alloc | apply pw_below_drewN | apply below_drew1) | exact HB.out))) : w.heap.size ≤ gb163)); have n3_ := Aside0.mk ((by rw [hg]; exact (below_size (by repeat (first | (with_reducible first | exact HB.out | apply below_alloc | apply pw_below_drewN | apply below_drew1) | exact HB.out))) : w.heap.size ≤ gb163)); clear HB; have HB := n0_; have BK163 := n1_; have GW163 := n2_; have GE163 := n3_; clear n0_ n1_ n2_ n3_; clear hb hbox hg))
  go_loopg [5, 6] k (fun kq v5 v6 w' => ∃ (x5_1 : List Int) (x6_1 : Int), v6 = .int .i64 x6_1 ∧ Aside0 (pascalineref32_Draw.l0 kq l0 x5_1 x6_1 = some (r1, r2, r3, r4, r5, r6, r7, r8, r9)) ∧ Aside0 (kq ≤ k) ∧ Aside0 (Kd.R (Kd.int .i32) 21 w' w.heap.size (fun _ => True) v5 x5_1) ∧ Aside0 (w'.heap[gb163]? = some (.cells #[.int .i64 0, .int .i64 0, .int .i64 0, .int .i64 0, .int .i64 0, .bool false, (.slice none 0 0)] 28 (0, 0))) ∧ Aside0 (Below w.heap.size w w'))
  case atStart => exact ⟨(([] : List Int)), (0), (by first | rfl | (simp; done) | (simp [*]; done)), H', ⟨Nat.le_refl _⟩, ⟨by first | exact Kd.R_nil _ _ _ _ _ | exact Kd.N_nil _ _ _ _ _ | exact Kd.V_nil _ _ _ _ _ | exact Kd.Q_nil _ _ _ _ _ | exact Kd.S_nil _ _ _ _ _⟩, ⟨by (with_reducible repeat (first | refine blk_drewN ?_ _ | refine blk_drew ?_ | refine blk_alloc ?_ _)); exact BK163.out⟩, ⟨by repeat (first | (with_reducible first | exact HB.out | apply below_alloc | apply pw_below_drewN | apply below_drew1 | refine below_set ?_ GE163.out) | exact HB.out)⟩⟩
  case round =>
    clear H'
    try clear c1
    try clear p2
    obtain ⟨x5_1, x6_1, rfl, HA, HK1, HO_5, BK163, HB⟩ := hrel
    cases gk with
    | zero => exact absurd HA.out (by simp [pascalineref32_Draw.l0])
    | succ k1 =>
      have H := HA.out
      clear HA
      simp only [pascalineref32_Draw.l0] at H
      by_cases c3 : x6_1 < (l0.length : Int)
      · rw [if_pos c3] at H
        have c3b0 : decide (x6_1 < (l0.length : Int)) = true := decide_eq_true c3
        clear c3
        by_cases c4 : 0 ≤ x6_1
        · rw [if_pos c4] at H
          have c4b0 : decide (0 ≤ x6_1) = true := decide_eq_true c4
          clear c4
          by_cases c5 : ((rd_T72 l0 x6_1).f0) = 0
          · rw [if_pos c5] at H
            have c5b0 : (((rd_T72 l0 x6_1).f0) == 0) = true := beq_iff_eq.mpr c5
            have c5b1 : (((rd_T72 l0 x6_1).f0) != 0) = false := bne_eq_false_iff_eq.mpr c5
            clear c5
            by_cases c6 : x5_1.length < 35184372088832
            · rw [if_pos c6] at H
              have LMc6 := Aside0.mk c6
              clear c6
              obtain ⟨y166, hy166⟩ : ∃ y_ : List Int, y_ = (x5_1 ++ [(rd_T72 l0 x6_1).f1]) := ⟨_, rfl⟩
              replace H : (pascalineref32_Draw.l0 k1 l0 y166 (wrap64 (x6_1 + 1))) = some (r1, r2, r3, r4, r5, r6, r7, r8, r9) := by first | (rw [hy166]; with_reducible exact H) | (have H2_ := (Option.bind_some _ _).symm.trans H; rw [hy166]; with_reducible exact H2_) | (have H2_ := (Option.bind_some _ _).symm.trans H; with_reducible exact H2_) | with_reducible exact H | (rw [hy166]; exact H) | exact H
              have Ny166 := Aside0.mk hy166
              clear hy166
              have H' := Aside0.mk H
              clear H
              have p164 : 0 ≤ (x6_1 : Int) := of_decide_eq_true (by first | (with_reducible assumption) | assumption)
              have q164 : x6_1 < (l0.length : Int) := of_decide_eq_true (by first | (with_reducible assumption) | assumption)
              obtain ⟨ad164, e164, hx164_0, hx164_1⟩ := at_T72 HR0.out x6_1 p164 q164
              cases e164
              replace hx164_0 := (HB.out.cell (World.block_lt_of_cell? w _ hx164_0)).trans hx164_0
              replace hx164_1 := (HB.out.cell (World.block_lt_of_cell? w _ hx164_1)).trans hx164_1
              replace p164 := eq_true p164
              replace q164 := eq_true q164
              have p165 : 0 ≤ (x6_1 : Int) := of_decide_eq_true (by first | (with_reducible assumption) | assumption)
              have q165 : x6_1 < (l0.length : Int) := of_decide_eq_true (by first | (with_reducible assumption) | assumption)
              obtain ⟨ad165, e165, hx165_0, hx165_1⟩ := at_T72 HR0.out x6_1 p165 q165
              obtain rfl : ad164 = ad165 := (by injection e165)
              replace hx165_0 := (HB.out.cell (World.block_lt_of_cell? w _ hx165_0)).trans hx165_0
              replace hx165_1 := (HB.out.cell (World.block_lt_of_cell? w _ hx165_1)).trans hx165_1
              replace p165 := eq_true p165
              replace q165 := eq_true q165
              go_wp2_with (first | ((with_reducible refine gate_builtin (b := .append) (xs := #[.tmp 23, .tmp 29]) rfl ?_); at_builtin; refine Kd.R_append (Kd.int .i32) (w0 := w) w.heap.size rfl (.tmp 23) (.tmp 29) 53 21 (.int .i32 0) 4 rfl Try.underlying53 info21 rfl (by decide) (by omega) u5 x5_1 ((rd_T72 l0 x6_1).f1) [.int .i32 ((rd_T72 l0 x6_1).f1)] (fun _ => True) (fun _ => False) rfl rfl ?aP (fun _ hk => hk.elim) ?aF ?aO ?aB ?aS ?aL ?_; (case aP => exact rfl); (case aB => exact (by repeat (first | (with_reducible first | exact HB.out | apply below_alloc | apply pw_below_drewN | apply below_drew1 | refine below_set ?_ GE163.out) | exact HB.out))); (case aF => exact (fun _ _ => trivial)); (case aO => exact (by (with_reducible repeat (first | apply Kd.R_alloc | apply Kd.R_drewN | apply Kd.R_drew)); exact HO_5.out)); (case aS => exact (below_size (by repeat (first | (with_reducible first | exact HB.out | apply below_alloc | apply pw_below_drewN | apply below_drew1 | refine below_set ?_ GE163.out) | exact HB.out)))); (case aL => have := LMc6.out; omega); intro v167 w7 ho hb hg hat; rw [← Ny166.out] at ho; have n0_ := Aside0.mk (blk_grown (g := gb163) (o := .cells #[.int .i64 0, .int .i64 0, .int .i64 0, .int .i64 0, .int .i64 0, .bool false, .slice none 0 0] 28 (0, 0)) (by (with_reducible repeat (first | refine blk_drewN ?_ _ | refine blk_drew ?_ | refine blk_alloc ?_ _)); exact BK163.out) hg (Kd.R_ne HO_5.out BK163.out (by decide))); have n1_ := Aside0.mk (hb); have n2_ := Aside0.mk (ho); clear BK163; clear HB; clear HO_5; have BK163 := n0_; have HB := n1_; have HO168 := n2_; clear n0_ n1_ n2_; clear ho hb hg hat))
              go_roundg k1
              case measure => have := HK1.out; omega
              case rel => exact ⟨(y166), (wrap64 (x6_1 + 1)), (by first | rfl | (simp; done) | (simp [*]; done)), H', ⟨by have := HK1.out; omega⟩, ⟨by (with_reducible repeat (first | apply Kd.R_alloc | apply Kd.R_drewN | apply Kd.R_drew)); exact HO168.out⟩, ⟨by (with_reducible repeat (first | refine blk_drewN ?_ _ | refine blk_drew ?_ | refine blk_alloc ?_ _)); exact BK163.out⟩, ⟨by repeat (first | (with_reducible first | exact HB.out | apply below_alloc | apply pw_below_drewN | apply below_drew1 | refine below_set ?_ GE163.out) | exact HB.out)⟩⟩
            · rw [if_neg c6] at H
              exact absurd H (by simp)
          · rw [if_neg c5] at H
            have c5b0 : (((rd_T72 l0 x6_1).f0) == 0) = false := beq_eq_false_iff_ne.mpr c5
            have c5b1 : (((rd_T72 l0 x6_1).f0) != 0) = true := bne_iff_ne.mpr c5
            have H' := Aside0.mk H
            clear H
            have p164 : 0 ≤ (x6_1 : Int) := of_decide_eq_true (by first | (with_reducible assumption) | assumption)
            have q164 : x6_1 < (l0.length : Int) := of_decide_eq_true (by first | (with_reducible assumption) | assumption)
            obtain ⟨ad164, e164, hx164_0, hx164_1⟩ := at_T72 HR0.out x6_1 p164 q164
            cases e164
            replace hx164_0 := (HB.out.cell (World.block_lt_of_cell? w _ hx164_0)).trans hx164_0
            replace hx164_1 := (HB.out.cell (World.block_lt_of_cell? w _ hx164_1)).trans hx164_1
            replace p164 := eq_true p164
            replace q164 := eq_true q164
            go_wp2
            go_roundg k1
            case measure => have := HK1.out; omega
            case rel => exact ⟨(x5_1), (wrap64 (x6_1 + 1)), (by first | rfl | (simp; done) | (simp [*]; done)), H', ⟨by have := HK1.out; omega⟩, ⟨by (with_reducible repeat (first | apply Kd.R_alloc | apply Kd.R_drewN | apply Kd.R_drew)); exact HO_5.out⟩, ⟨by (with_reducible repeat (first | refine blk_drewN ?_ _ | refine blk_drew ?_ | refine blk_alloc ?_ _)); exact BK163.out⟩, ⟨by repeat (first | (with_reducible first | exact HB.out | apply below_alloc | apply pw_below_drewN | apply below_drew1 | refine below_set ?_ GE163.out) | exact HB.out)⟩⟩
        · rw [if_neg c4] at H
          exact absurd H (by simp)
      · rw [if_neg c3] at H
        have c3b0 : decide (x6_1 < (l0.length : Int)) = false := decide_eq_false c3
        clear c3
        replace H := Option.bind_eq_some_iff.mp H
        obtain ⟨⟨t169, t170, t171, t172, t173, t174, t175⟩, A80, H⟩ := H
        replace H : (pascalineref32_Draw.l1 k1 x5_1 0 t169 t170 t171 t172 t173 t174 t175) = some (r1, r2, r3, r4, r5, r6, r7, r8, r9) := H
        have A8 := Aside0.mk A80
        clear A80
        have H' := Aside0.mk H
        clear H
        go_wp2_with (first | ((with_reducible refine gate_callee (f := 10) rfl ?_); refine goesL_ (some 31) rfl rfl Try.func10 (by kernel_rfl) rfl #[] rfl (by (try simp only [List.map_toArray, List.map_cons, List.map_nil]); first | done | rfl | (simp only [List.length_drop, List.length_take]; rfl)) ?_; (with_reducible refine (pascalineref32_New.calls  t169 t170 t171 t172 t173 t174 t175 _ A8.out).mono ?_); rintro e w9 ⟨v176, rfl, ho0, hb⟩; refine ⟨_, rfl, ?_⟩; have n0_ := Aside0.mk (Kd.R_below (by (with_reducible repeat (first | apply Kd.R_alloc | apply Kd.R_drewN | apply Kd.R_drew)); exact HO_5.out) hb); have n1_ := Aside0.mk (Kd.R_lower ho0 (below_size (by repeat (first | (with_reducible first | exact HB.out | apply below_alloc | apply pw_below_drewN | apply below_drew1 | refine below_set ?_ GE163.out) | exact HB.out)))); have n2_ := Aside0.mk (blk_below (g := gb163) (o := .cells #[.int .i64 0, .int .i64 0, .int .i64 0, .int .i64 0, .int .i64 0, .bool false, .slice none 0 0] 28 (0, 0)) (by (with_reducible repeat (first | refine blk_drewN ?_ _ | refine blk_drew ?_ | refine blk_alloc ?_ _)); exact BK163.out) hb); have n3_ := Aside0.mk (below_step (by repeat (first | (with_reducible first | exact HB.out | apply below_alloc | apply pw_below_drewN | apply below_drew1 | refine below_set ?_ GE163.out) | exact HB.out)) hb); clear HO_5; clear BK163; clear HB; have HO_5 := n0_; have HO177 := n1_; have BK163 := n2_; have HB := n3_; clear n0_ n1_ n2_ n3_; (try clear hb); (try clear hb2); (try clear hk); (try clear hi); (try clear ho0)) | ((with_reducible refine gate_dst (N := 7) rfl ?_); refine box_event ?hg (N := 7) ?hd (cs := #[.int .i64 0, .int .i64 0, .int .i64 0, .int .i64 0, .int .i64 0, .bool false, .slice none 0 0]) (t := 28) ?hr ?_; (case hd => rfl); (case hg => rfl); (case hr => first | (go_simp; done) | (go_simp; rfl)); intro gb178 hg w10 hbox hb; have n0_ := Aside0.mk (Kd.R_below (by (with_reducible repeat (first | apply Kd.R_alloc | apply Kd.R_drewN | apply Kd.R_drew)); exact HO_5.out) hb); have n1_ := Aside0.mk (Kd.R_below (by (with_reducible repeat (first | apply Kd.R_alloc | apply Kd.R_drewN | apply Kd.R_drew)); exact HO177.out) hb); have n2_ := Aside0.mk (blk_below (g := gb163) (o := .cells #[.int .i64 0, .int .i64 0, .int .i64 0, .int .i64 0, .int .i64 0, .bool false, .slice none 0 0] 28 (0, 0)) (by (with_reducible repeat (first | refine blk_drewN ?_ _ | refine blk_drew ?_ | refine blk_alloc ?_ _)); exact BK163.out) hb); have n3_ := Aside0.mk (below_step (by repeat (first | (with_reducible first | exact HB.out | apply below_alloc | apply pw_below_drewN | apply below_drew1 | refine below_set ?_ GE163.out) | exact HB.out)) hb); have n4_ := Aside0.mk (hbox); have n5_ := Aside0.mk ((by rw [hg]; exact (below_size (by repeat (first | (with_reducible first | exact HB.out | apply below_alloc | apply pw_below_drewN | apply below_drew1 | refine below_set ?_ GE163.out) | exact HB.out))) : w.heap.size ≤ gb178)); have n6_ := Aside0.mk ((by rw [hg]; exact (below_size (by repeat (first | (with_reducible first | exact HB.out | apply below_alloc | apply pw_below_drewN | apply below_drew1 | refine below_set ?_ GE163.out) | exact HB.out))) : w.heap.size ≤ gb178)); have n7_ := Aside0.mk ((by rw [hg]; exact Nat.ne_of_lt (blk_lt (g := gb163) (o := .cells #[.int .i64 0, .int .i64 0, .int .i64 0, .int .i64 0, .int .i64 0, .bool false, .slice none 0 0] 28 (0, 0)) (by (with_reducible repeat (first | refine blk_drewN ?_ _ | refine blk_drew ?_ | refine blk_alloc ?_ _)); exact BK163.out)) : gb163 ≠ gb178)); have n8_ := Aside0.mk ((by rw [hg]; exact Nat.ne_of_gt (blk_lt (g := gb163) (o := .cells #[.int .i64 0, .int .i64 0, .int .i64 0, .int .i64 0, .int .i64 0, .bool false, .slice none 0 0] 28 (0, 0)) (by (with_reducible repeat (first | refine blk_drewN ?_ _ | refine blk_drew ?_ | refine blk_alloc ?_ _)); exact BK163.out)) : gb178 ≠ gb163)); clear HO_5; clear HO177; clear BK163; clear HB; have HO_5 := n0_; have HO177 := n1_; have BK163 := n2_; have HB := n3_; have BK178 := n4_; have GW178 := n5_; have GE178 := n6_; have NB163_178 := n7_; have NB178_163 := n8_; clear n0_ n1_ n2_ n3_ n4_ n5_ n6_ n7_ n8_; clear hb hbox hg; have hnb11 := NB178_163.out; have hnc11 := NB163_178.out; have hcz12_0 : w10.cell? ⟨gb178, 0, none⟩ = some (.int .i64 0) := (blk_cell BK178.out 0).trans rfl; have hcz12_1 : w10.cell? ⟨gb178, 1, none⟩ = some (.int .i64 0) := (blk_cell BK178.out 1).trans rfl; have hcz12_2 : w10.cell? ⟨gb178, 2, none⟩ = some (.int .i64 0) := (blk_cell BK178.out 2).trans rfl; have hcz12_3 : w10.cell? ⟨gb178, 3, none⟩ = some (.int .i64 0) := (blk_cell BK178.out 3).trans rfl; have hcz12_4 : w10.cell? ⟨gb178, 4, none⟩ = some (.int .i64 0) := (blk_cell BK178.out 4).trans rfl; have hcz12_5 : w10.cell? ⟨gb178, 5, none⟩ = some (.bool false) := (blk_cell BK178.out 5).trans rfl; have hcz12_6 : w10.cell? ⟨gb178, 6, none⟩ = some (.slice none 0 0) := (blk_cell BK178.out 6).trans rfl; have hfz12_0 := blk_frozen BK178.out 0; have hfz12_1 := blk_frozen BK178.out 1; have hfz12_2 := blk_frozen BK178.out 2; have hfz12_3 := blk_frozen BK178.out 3; have hfz12_4 := blk_frozen BK178.out 4; have hfz12_5 := blk_frozen BK178.out 5; have hfz12_6 := blk_frozen BK178.out 6; obtain ⟨Ao13, co13, eo13⟩ := Kd.R_slice HO177.out; subst eo13))
        go_loopg [8] k1 (fun kq v8 w' => ∃ (x8_2 : Int) (x164000_2 : Int) (x164001_2 : Int) (x164002_2 : Int) (x164003_2 : Int) (x164004_2 : Int) (x164005_2 : Bool) (x179000_2 : Int) (x179001_2 : Int) (x179002_2 : Int) (x179003_2 : Int) (x179004_2 : Int) (x179005_2 : Bool) (x179006_2 : List (S70)) (u179006 : Value), v8 = .int .i64 x8_2 ∧ Aside0 (pascalineref32_Draw.l1 kq x5_1 x8_2 x179000_2 x179001_2 x179002_2 x179003_2 x179004_2 x179005_2 x179006_2 = some (r1, r2, r3, r4, r5, r6, r7, r8, r9)) ∧ Aside0 (kq ≤ k1) ∧ Aside0 (Kd.R (Kd.int .i32) 21 w' w.heap.size (fun _ => True) u5 x5_1) ∧ Aside0 (Kd.R k70 70 w' w.heap.size (fun _ => True) u179006 x179006_2) ∧ Aside0 (w'.heap[gb163]? = some (.cells #[.int .i64 x164000_2, .int .i64 x164001_2, .int .i64 x164002_2, .int .i64 x164003_2, .int .i64 x164004_2, .bool x164005_2, (.slice none 0 0)] 28 (0, 0))) ∧ Aside0 (w'.heap[gb178]? = some (.cells #[.int .i64 x179000_2, .int .i64 x179001_2, .int .i64 x179002_2, .int .i64 x179003_2, .int .i64 x179004_2, .bool x179005_2, u179006] 28 (0, 0))) ∧ Aside0 (Below w.heap.size w w'))
        case atStart => exact ⟨(0), (0), (0), (0), (0), (0), (false), (t169), (t170), (t171), (t172), (t173), (t174), (t175), (.slice Ao13 t175.length co13), (by first | rfl | (simp; done) | (simp [*]; done)), H', ⟨Nat.le_refl _⟩, ⟨by (with_reducible repeat (first | apply Kd.R_alloc | apply Kd.R_drewN | apply Kd.R_drew)); exact Kd.R_mono (Kd.R_far (p := ⟨gb178, 6, none⟩) (Kd.R_far (p := ⟨gb178, 5, none⟩) (Kd.R_far (p := ⟨gb178, 4, none⟩) (Kd.R_far (p := ⟨gb178, 3, none⟩) (Kd.R_far (p := ⟨gb178, 2, none⟩) (Kd.R_far (p := ⟨gb178, 1, none⟩) (Kd.R_far (p := ⟨gb178, 0, none⟩) (Kd.R_types HO_5.out BK178.out (by decide)) (fun _ hk => hk.2) (.int .i64 t169)) (fun _ hk => hk.2) (.int .i64 t170)) (fun _ hk => hk.2) (.int .i64 t171)) (fun _ hk => hk.2) (.int .i64 t172)) (fun _ hk => hk.2) (.int .i64 t173)) (fun _ hk => hk.2) (.bool t174)) (fun _ hk => hk.2) (.slice Ao13 t175.length co13)) (fun _ hk => trivial)⟩, ⟨by (with_reducible repeat (first | apply Kd.R_alloc | apply Kd.R_drewN | apply Kd.R_drew)); exact Kd.R_mono (Kd.R_far (p := ⟨gb178, 6, none⟩) (Kd.R_far (p := ⟨gb178, 5, none⟩) (Kd.R_far (p := ⟨gb178, 4, none⟩) (Kd.R_far (p := ⟨gb178, 3, none⟩) (Kd.R_far (p := ⟨gb178, 2, none⟩) (Kd.R_far (p := ⟨gb178, 1, none⟩) (Kd.R_far (p := ⟨gb178, 0, none⟩) (Kd.R_types HO177.out BK178.out (by decide)) (fun _ hk => hk.2) (.int .i64 t169)) (fun _ hk => hk.2) (.int .i64 t170)) (fun _ hk => hk.2) (.int .i64 t171)) (fun _ hk => hk.2) (.int .i64 t172)) (fun _ hk => hk.2) (.int .i64 t173)) (fun _ hk => hk.2) (.bool t174)) (fun _ hk => hk.2) (.slice Ao13 t175.length co13)) (fun _ hk => trivial)⟩, ⟨by (with_reducible repeat (first | refine blk_drewN ?_ _ | refine blk_drew ?_ | refine blk_alloc ?_ _)); refine blk_far ?_ NB163_178.out _; (with_reducible repeat (first | refine blk_drewN ?_ _ | refine blk_drew ?_ | refine blk_alloc ?_ _)); refine blk_far ?_ NB163_178.out _; (with_reducible repeat (first | refine blk_drewN ?_ _ | refine blk_drew ?_ | refine blk_alloc ?_ _)); refine blk_far ?_ NB163_178.out _; (with_reducible repeat (first | refine blk_drewN ?_ _ | refine blk_drew ?_ | refine blk_alloc ?_ _)); refine blk_far ?_ NB163_178.out _; (with_reducible repeat (first | refine blk_drewN ?_ _ | refine blk_drew ?_ | refine blk_alloc ?_ _)); refine blk_far ?_ NB163_178.out _; (with_reducible repeat (first | refine blk_drewN ?_ _ | refine blk_drew ?_ | refine blk_alloc ?_ _)); refine blk_far ?_ NB163_178.out _; (with_reducible repeat (first | refine blk_drewN ?_ _ | refine blk_drew ?_ | refine blk_alloc ?_ _)); refine blk_far ?_ NB163_178.out _; (with_reducible repeat (first | refine blk_drewN ?_ _ | refine blk_drew ?_ | refine blk_alloc ?_ _)); exact BK163.out⟩, ⟨by (with_reducible repeat (first | refine blk_drewN ?_ _ | refine blk_drew ?_ | refine blk_alloc ?_ _)); refine blk_put (cs := #[.int .i64 t169, .int .i64 t170, .int .i64 t171, .int .i64 t172, .int .i64 t173, .bool t174, .slice none 0 0]) ?_ 6 _ rfl; (with_reducible repeat (first | refine blk_drewN ?_ _ | refine blk_drew ?_ | refine blk_alloc ?_ _)); refine blk_put (cs := #[.int .i64 t169, .int .i64 t170, .int .i64 t171, .int .i64 t172, .int .i64 t173, .bool false, .slice none 0 0]) ?_ 5 _ rfl; (with_reducible repeat (first | refine blk_drewN ?_ _ | refine blk_drew ?_ | refine blk_alloc ?_ _)); refine blk_put (cs := #[.int .i64 t169, .int .i64 t170, .int .i64 t171, .int .i64 t172, .int .i64 0, .bool false, .slice none 0 0]) ?_ 4 _ rfl; (with_reducible repeat (first | refine blk_drewN ?_ _ | refine blk_drew ?_ | refine blk_alloc ?_ _)); refine blk_put (cs := #[.int .i64 t169, .int .i64 t170, .int .i64 t171, .int .i64 0, .int .i64 0, .bool false, .slice none 0 0]) ?_ 3 _ rfl; (with_reducible repeat (first | refine blk_drewN ?_ _ | refine blk_drew ?_ | refine blk_alloc ?_ _)); refine blk_put (cs := #[.int .i64 t169, .int .i64 t170, .int .i64 0, .int .i64 0, .int .i64 0, .bool false, .slice none 0 0]) ?_ 2 _ rfl; (with_reducible repeat (first | refine blk_drewN ?_ _ | refine blk_drew ?_ | refine blk_alloc ?_ _)); refine blk_put (cs := #[.int .i64 t169, .int .i64 0, .int .i64 0, .int .i64 0, .int .i64 0, .bool false, .slice none 0 0]) ?_ 1 _ rfl; (with_reducible repeat (first | refine blk_drewN ?_ _ | refine blk_drew ?_ | refine blk_alloc ?_ _)); refine blk_put (cs := #[.int .i64 0, .int .i64 0, .int .i64 0, .int .i64 0, .int .i64 0, .bool false, .slice none 0 0]) ?_ 0 _ rfl; (with_reducible repeat (first | refine blk_drewN ?_ _ | refine blk_drew ?_ | refine blk_alloc ?_ _)); exact BK178.out⟩, ⟨by repeat (first | (with_reducible first | exact HB.out | apply below_alloc | apply pw_below_drewN | apply below_drew1 | refine below_set ?_ GE163.out | refine below_set ?_ GE178.out) | exact HB.out)⟩⟩
        case round =>
          clear H'
          try clear c1
          try clear p1
          try clear q1
          try clear hx1
          try clear p2
          try clear c3
          try clear c3b0
          try clear c4
          try clear c4b0
          try clear c5
          try clear c5b0
          try clear c5b1
          try clear c6
          try clear p6
          try clear c10
          try clear c11
          try clear hcz12_0
          try clear hcz12_1
          try clear hcz12_2
          try clear hcz12_3
          try clear hcz12_4
          try clear hcz12_5
          try clear hcz12_6
          try clear hfz12_0
          try clear hfz12_1
          try clear hfz12_2
          try clear hfz12_3
          try clear hfz12_4
          try clear hfz12_5
          try clear hfz12_6
          try clear hx164_0
          try clear hx164_1
          try clear hx165_0
          try clear hx165_1
          try clear p164
          try clear p165
          try clear p2
          try clear q164
          try clear q165
          obtain ⟨x8_2, x164000_2, x164001_2, x164002_2, x164003_2, x164004_2, x164005_2, x179000_2, x179001_2, x179002_2, x179003_2, x179004_2, x179005_2, x179006_2, u179006, rfl, HA, HK2, HO_5, HO_179006, BK163, BK178, HB⟩ := hrel
          cases gk with
          | zero => exact absurd HA.out (by simp [pascalineref32_Draw.l1])
          | succ k2 =>
            have H := HA.out
            clear HA
            simp only [pascalineref32_Draw.l1] at H
            by_cases c14 : (wrap64 (x8_2 + 1)) < (x5_1.length : Int)
            · rw [if_pos c14] at H
              have c14b0 : decide ((wrap64 (x8_2 + 1)) < (x5_1.length : Int)) = true := decide_eq_true c14
              clear c14
              by_cases c15 : 0 ≤ x8_2
              · rw [if_pos c15] at H
                have c15b0 : decide (0 ≤ x8_2) = true := decide_eq_true c15
                clear c15
                by_cases c16 : x8_2 < (x5_1.length : Int)
                · rw [if_pos c16] at H
                  have c16b0 : decide (x8_2 < (x5_1.length : Int)) = true := decide_eq_true c16
                  clear c16
                  obtain ⟨ji17, hji17⟩ : ∃ j_ : Int, (wrap64 (x8_2 + 1)) = j_ := ⟨_, rfl⟩
                  replace H : (if 0 ≤ (ji17) then ((pascalineref32_Do.f k2 x179000_2 x179001_2 x179002_2 x179003_2 x179004_2 x179005_2 x179006_2 (rd x5_1 x8_2) (rd x5_1 (ji17))).bind fun bt181 => (if bt181.2.2.2.2.2.2.2 = 0 then (pascalineref32_Draw.l1 k2 x5_1 (wrap64 (x8_2 + 2)) bt181.1 bt181.2.1 bt181.2.2.1 bt181.2.2.2.1 bt181.2.2.2.2.1 bt181.2.2.2.2.2.1 bt181.2.2.2.2.2.2.1) else (some (bt181.1, bt181.2.1, bt181.2.2.1, bt181.2.2.2.1, bt181.2.2.2.2.1, bt181.2.2.2.2.2.1, bt181.2.2.2.2.2.2.1, wrap64 (Int.tdiv x8_2 2), bt181.2.2.2.2.2.2.2)))) else (none)) = some (r1, r2, r3, r4, r5, r6, r7, r8, r9) := by first | (rw [hji17] at H; exact H) | (simp only [hji17] at H ⊢; exact H)
                  (try rw [hji17] at c14b0)
                  have hji17w : (IntKind.i64.wrap (x8_2 + 1)) = ji17 := (i64_w _).trans hji17
                  by_cases c18 : 0 ≤ (ji17)
                  · rw [if_pos c18] at H
                    have c18b0 : decide (0 ≤ (ji17)) = true := decide_eq_true c18
                    clear c18
                    replace H := Option.bind_eq_some_iff.mp H
                    obtain ⟨⟨t181, t182, t183, t184, t185, t186, t187, t190⟩, A190, H⟩ := H
                    replace H : (if t190 = 0 then (pascalineref32_Draw.l1 k2 x5_1 (wrap64 (x8_2 + 2)) t181 t182 t183 t184 t185 t186 t187) else (some (t181, t182, t183, t184, t185, t186, t187, wrap64 (Int.tdiv x8_2 2), t190))) = some (r1, r2, r3, r4, r5, r6, r7, r8, r9) := H
                    have A19 := Aside0.mk A190
                    clear A190
                    by_cases c20 : t190 = 0
                    · rw [if_pos c20] at H
                      have c20b0 : (t190 == 0) = true := beq_iff_eq.mpr c20
                      have c20b1 : (t190 != 0) = false := bne_eq_false_iff_eq.mpr c20
                      clear c20
                      have H' := Aside0.mk H
                      clear H
                      obtain ⟨Ao21, co21, eo21⟩ := Kd.R_slice HO_5.out
                      subst eo21
                      obtain ⟨Ao22, co22, eo22⟩ := Kd.R_slice HO_179006.out
                      subst eo22
                      try go_wp2
                      have n0_ := Aside0.mk (Kd.R_drew HO_5.out)
                      have n1_ := Aside0.mk (Kd.R_drew HO_179006.out)
                      have n2_ := Aside0.mk (blk_drew BK163.out)
                      have n3_ := Aside0.mk (blk_drew BK178.out)
                      have n4_ := Aside0.mk (below_drew1 HB.out)
                      clear HO_5
                      clear HO_179006
                      clear BK163
                      clear BK178
                      clear HB
                      have HO_5 := n0_
                      have HO_179006 := n1_
                      have BK163 := n2_
                      have BK178 := n3_
                      have HB := n4_
                      clear n0_ n1_ n2_ n3_ n4_
                      have p179 : 0 ≤ (x8_2 : Int) := of_decide_eq_true (by first | (with_reducible assumption) | assumption)
                      have q179 : x8_2 < (x5_1.length : Int) := of_decide_eq_true (by first | (with_reducible assumption) | assumption)
                      obtain ⟨ad179, e179, hx179_0⟩ := Kd.at_int (Kd.R_reads' HO_5.out).2.2 x8_2 p179 q179
                      cases e179
                      replace p179 := eq_true p179
                      replace q179 := eq_true q179
                      have p180 : 0 ≤ ((ji17) : Int) := of_decide_eq_true (by first | (with_reducible assumption) | assumption)
                      have q180 : (ji17) < (x5_1.length : Int) := of_decide_eq_true (by first | (with_reducible assumption) | assumption)
                      obtain ⟨ad180, e180, hx180_0⟩ := Kd.at_int (Kd.R_reads' HO_5.out).2.2 (ji17) p180 q180
                      obtain rfl : ad179 = ad180 := (by injection e180)
                      replace p180 := eq_true p180
                      replace q180 := eq_true q180
                      refine start_ (n := 17) (S := fun w' => w'.cell? ⟨gb178, 0, none⟩ = some (.int .i64 x179000_2) ∧ w'.cell? ⟨gb178, 1, none⟩ = some (.int .i64 x179001_2) ∧ w'.cell? ⟨gb178, 2, none⟩ = some (.int .i64 x179002_2) ∧ w'.cell? ⟨gb178, 3, none⟩ = some (.int .i64 x179003_2) ∧ w'.cell? ⟨gb178, 4, none⟩ = some (.int .i64 x179004_2) ∧ w'.cell? ⟨gb178, 5, none⟩ = some (.bool x179005_2) ∧ w'.cell? ⟨gb178, 6, none⟩ = some (.slice Ao22 x179006_2.length co22) ∧ w'.cell? (ad179.add (x8_2).toNat) = some (.int .i32 (rd x5_1 x8_2)) ∧ w'.cell? (ad179.add ((ji17)).toNat) = some (.int .i32 (rd x5_1 (ji17)))) (ds := []) #[false, false, false, false, false, false, false, false, false, false, false, false, false, false, false, false, false] (by kernel_rfl) rfl rfl ⟨(blk_cell BK178.out 0).trans rfl, (blk_cell BK178.out 1).trans rfl, (blk_cell BK178.out 2).trans rfl, (blk_cell BK178.out 3).trans rfl, (blk_cell BK178.out 4).trans rfl, (blk_cell BK178.out 5).trans rfl, (blk_cell BK178.out 6).trans rfl, hx179_0, hx180_0⟩ (fun hHeld => ?_); refine with_tabW pascalineref32_Draw.tab11 pascalineref32_Draw.bits11 (fun HT_ HW_ => ?_)
                      generalize wr.drew = w23 at HO_5 HO_179006 BK163 BK178 HB hx179_0 hx180_0 hHeld ⊢
                      refine pure_ (i := 1) (N := some 41) (v := ?_) (a' := ?_) #[false, true, false, false, false, false, false, false, false, false, false, false, false, false, false, false, false] rfl rfl (any_of HT_.out (by kernel_rfl)) (fun _ _ _ h => h) (Or.inl ⟨by rfl, ?_⟩) ?_ ?_
                      rotate_left
                      · intro w'
                        go_simp
                        with_reducible rfl
                      rotate_left
                      · simp only [Act.put, List.setIfInBounds_toArray, List.set_cons_zero, List.set_cons_succ, i64_w, i32_w]
                        rfl
                      refine pure_ (i := 2) (N := some 42) (v := ?_) (a' := ?_) #[false, true, true, false, false, false, false, false, false, false, false, false, false, false, false, false, false] rfl rfl (any_of HT_.out (by kernel_rfl)) (fun _ _ _ h => h) (Or.inl ⟨by rfl, ?_⟩) ?_ ?_
                      rotate_left
                      · intro w'
                        go_simp
                        with_reducible rfl
                      rotate_left
                      · simp only [Act.put, List.setIfInBounds_toArray, List.set_cons_zero, List.set_cons_succ, i64_w, i32_w]
                        rfl
                      refine pure_ (i := 3) (N := some 43) (v := ?_) (a' := ?_) #[false, true, true, true, false, false, false, false, false, false, false, false, false, false, false, false, false] rfl rfl (any_of HT_.out (by kernel_rfl)) (fun _ _ _ h => h) (Or.inl ⟨by rfl, ?_⟩) ?_ ?_
                      rotate_left
                      · intro w'
                        go_simp
                        with_reducible rfl
                      rotate_left
                      · simp only [Act.put, List.setIfInBounds_toArray, List.set_cons_zero, List.set_cons_succ, i64_w, i32_w]
                        rfl
                      refine pure_ (i := 5) (N := some 45) (v := ?_) (a' := ?_) #[false, true, true, true, false, true, false, false, false, false, false, false, false, false, false, false, false] rfl rfl (any_of HT_.out (by kernel_rfl)) (fun _ _ _ h => h) (Or.inl ⟨by rfl, ?_⟩) ?_ ?_
                      rotate_left
                      · intro w'
                        go_simp
                        with_reducible rfl
                      rotate_left
                      · simp only [Act.put, List.setIfInBounds_toArray, List.set_cons_zero, List.set_cons_succ, i64_w, i32_w]
                        rfl
                      refine pure_ (i := 6) (N := some 46) (v := ?_) (a' := ?_) #[false, true, true, true, false, true, true, false, false, false, false, false, false, false, false, false, false] rfl rfl (any_of HT_.out (by kernel_rfl)) (fun _ _ _ h => h) (Or.inl ⟨by rfl, ?_⟩) ?_ ?_
                      rotate_left
                      · intro w'
                        go_simp
                        with_reducible rfl
                      rotate_left
                      · simp only [Act.put, List.setIfInBounds_toArray, List.set_cons_zero, List.set_cons_succ, i64_w, i32_w]
                        rfl
                      refine pure_ (i := 7) (N := some 47) (v := ?_) (a' := ?_) #[false, true, true, true, false, true, true, true, false, false, false, false, false, false, false, false, false] rfl rfl (any_of HT_.out (by kernel_rfl)) (fun _ _ _ h => h) (Or.inl ⟨by rfl, ?_⟩) ?_ ?_
                      rotate_left
                      · intro w'
                        go_simp
                        with_reducible rfl
                      rotate_left
                      · simp only [Act.put, List.setIfInBounds_toArray, List.set_cons_zero, List.set_cons_succ, i64_w, i32_w]
                        rfl
                      refine pure_ (i := 8) (N := some 48) (v := ?_) (a' := ?_) #[false, true, true, true, false, true, true, true, true, false, false, false, false, false, false, false, false] rfl rfl (any_of HT_.out (by kernel_rfl)) (fun _ _ _ h => h) (Or.inl ⟨by rfl, ?_⟩) ?_ ?_
                      rotate_left
                      · intro w'
                        go_simp
                        with_reducible rfl
                      rotate_left
                      · simp only [Act.put, List.setIfInBounds_toArray, List.set_cons_zero, List.set_cons_succ, i64_w, i32_w]
                        rfl
                      refine take_ (i := 0) (N := some 40) (v := ?_) (a' := ?_) #[true, true, true, true, false, true, true, true, true, false, false, false, false, false, false, false, false] rfl rfl (take_ofW HT_.out HW_.out (by kernel_rfl)) (fun _ _ _ h => h) (Or.inl ⟨by rfl, ?_⟩) hHeld ?_ ?_
                      rotate_left
                      · rintro w' ⟨s0, s1, s2, s3, s4, s5, s6, s7, s8⟩
                        go_simp
                        with_reducible rfl
                      rotate_left
                      · simp only [Act.put, List.setIfInBounds_toArray, List.set_cons_zero, List.set_cons_succ, i64_w, i32_w]
                        rfl
                      refine take_ (i := 4) (N := some 44) (v := ?_) (a' := ?_) #[true, true, true, true, true, true, true, true, true, false, false, false, false, false, false, false, false] rfl rfl (take_ofW HT_.out HW_.out (by kernel_rfl)) (fun _ _ _ h => h) (Or.inl ⟨by rfl, ?_⟩) hHeld ?_ ?_
                      rotate_left
                      · rintro w' ⟨s0, s1, s2, s3, s4, s5, s6, s7, s8⟩
                        go_simp
                        with_reducible rfl
                      rotate_left
                      · simp only [Act.put, List.setIfInBounds_toArray, List.set_cons_zero, List.set_cons_succ, i64_w, i32_w]
                        rfl
                      refine take_ (i := 9) (N := some 49) (v := ?_) (a' := ?_) #[true, true, true, true, true, true, true, true, true, true, false, false, false, false, false, false, false] rfl rfl (take_ofW HT_.out HW_.out (by kernel_rfl)) (fun _ _ _ h => h) (Or.inl ⟨by rfl, ?_⟩) hHeld ?_ ?_
                      rotate_left
                      · rintro w' ⟨s0, s1, s2, s3, s4, s5, s6, s7, s8⟩
                        go_simp
                        with_reducible rfl
                      rotate_left
                      · simp only [Act.put, List.setIfInBounds_toArray, List.set_cons_zero, List.set_cons_succ, i64_w, i32_w]
                        rfl
                      refine join_ (σ := Value × Nat) 2 #[true, true, true, true, true, true, true, true, true, true, true, true, true, true, true, false, false] (fun s_ => [(50, .tuple #[.agg #[.int .i64 t181, .int .i64 t182, .int .i64 t183, .int .i64 t184, .int .i64 t185, .bool t186, s_.1], .int .i64 t190]), (9, .pointer (some ⟨s_.2, 0, none⟩)), (39, .tuple #[.agg #[.int .i64 t181, .int .i64 t182, .int .i64 t183, .int .i64 t184, .int .i64 t185, .bool t186, s_.1], .int .i64 t190]), (51, .agg #[.int .i64 t181, .int .i64 t182, .int .i64 t183, .int .i64 t184, .int .i64 t185, .bool t186, s_.1]), (52, .int .i64 t190)]) (fun s_ w' => (w'.cell? ⟨gb178, 0, none⟩ = some (.int .i64 x179000_2) ∧ w'.cell? ⟨gb178, 1, none⟩ = some (.int .i64 x179001_2) ∧ w'.cell? ⟨gb178, 2, none⟩ = some (.int .i64 x179002_2) ∧ w'.cell? ⟨gb178, 3, none⟩ = some (.int .i64 x179003_2) ∧ w'.cell? ⟨gb178, 4, none⟩ = some (.int .i64 x179004_2) ∧ w'.cell? ⟨gb178, 5, none⟩ = some (.bool x179005_2) ∧ w'.cell? ⟨gb178, 6, none⟩ = some (.slice Ao22 x179006_2.length co22) ∧ w'.cell? (ad179.add (x8_2).toNat) = some (.int .i32 (rd x5_1 x8_2)) ∧ w'.cell? (ad179.add ((ji17)).toNat) = some (.int .i32 (rd x5_1 (ji17)))) ∧ (Kd.R k70 70 w' w.heap.size (fun _ => True) s_.1 t187) ∧ (Kd.R (Kd.int .i32) 21 w' w.heap.size (fun _ => True) (.slice (some ad179) x5_1.length co21) x5_1) ∧ (w'.heap[gb163]? = some (.cells #[.int .i64 x164000_2, .int .i64 x164001_2, .int .i64 x164002_2, .int .i64 x164003_2, .int .i64 x164004_2, .bool x164005_2, .slice none 0 0] 28 (0, 0))) ∧ (w'.heap[gb178]? = some (.cells #[.int .i64 x179000_2, .int .i64 x179001_2, .int .i64 x179002_2, .int .i64 x179003_2, .int .i64 x179004_2, .bool x179005_2, .slice Ao22 x179006_2.length co22] 28 (0, 0))) ∧ (w'.heap[s_.2]? = some (.cells #[.int .i64 0, .int .i64 0, .int .i64 0, .int .i64 0, .int .i64 0, .bool false, .slice none 0 0] 28 (0, 0))) ∧ (w.heap.size ≤ s_.2) ∧ (w.heap.size ≤ s_.2) ∧ (gb163 ≠ s_.2) ∧ (s_.2 ≠ gb163) ∧ (gb178 ≠ s_.2) ∧ (s_.2 ≠ gb178) ∧ (Below w.heap.size w w')) ?_ ?_
                      rotate_left
                      · intro hCont
                        refine two_ (i := 10) (j := 14) (Ni := some 50) (Nj := some 9) #[true, true, true, true, true, true, true, true, true, true, true, false, false, false, false, false, false] #[true, true, true, true, true, true, true, true, true, true, false, false, false, false, true, false, false] rfl rfl rfl rfl (two_of HT_.out (by kernel_rfl)) (by decide) (by decide) (fun K hK => ?_) (fun K hK => ?_)
                        · skip
                          refine goes_ Try.func11 (by kernel_rfl) rfl #[.agg #[.int .i64 x179000_2, .int .i64 x179001_2, .int .i64 x179002_2, .int .i64 x179003_2, .int .i64 x179004_2, .bool x179005_2, .slice Ao22 x179006_2.length co22], .int .i32 (rd x5_1 x8_2), .int .i32 (rd x5_1 (ji17))] (by rfl) rfl rfl (by (try simp only [List.map_toArray, List.map_cons, List.map_nil]); first | done | (simp only [hji17]; rfl) | rfl | (simp only [List.length_drop, List.length_take]; rfl)) ?_
                          with_reducible refine (pascalineref32_Do.calls k2 x179000_2 x179001_2 x179002_2 x179003_2 x179004_2 x179005_2 (fun k_ => some k_ = (.slice Ao22 x179006_2.length co22 : Value).ownBlock) (.slice Ao22 x179006_2.length co22) x179006_2 (rd x5_1 x8_2) (rd x5_1 (ji17)) t181 t182 t183 t184 t185 t186 t187 t190 w _ ?side1 ?side2 A19.out).mono ?_
                          (case side1 => repeat (first | (with_reducible first | exact HB.out | apply below_alloc | apply pw_below_drewN | apply below_drew1 | refine below_set ?_ GE163.out | refine below_set ?_ GE178.out) | exact HB.out))
                          (case side2 => exact Kd.R_tight rfl HO_179006.out)
                          rintro e w24 ⟨v188, rfl, ho0, hb, hkp⟩
                          have HS7_ := Go.Proofs.YtbfepcajbbeheaaW.PrintWords.cell_kept (hHeld.2.2.2.2.2.2.2.1) hkp (by first | (rw [add_block]; exact (fun hs_ => ((((Kd.R_apart' HO_5.out (Kd.R_typed HO_179006.out) (by decide))).1 _ rfl).2) hs_)) | (show ¬ _; simp only [add_block]; exact (fun hs_ => ((((Kd.R_apart' HO_5.out (Kd.R_typed HO_179006.out) (by decide))).1 _ rfl).2) hs_)) | exact (fun hs_ => ((((Kd.R_apart' HO_5.out (Kd.R_typed HO_179006.out) (by decide))).1 _ rfl).2) hs_))
                          have HS8_ := Go.Proofs.YtbfepcajbbeheaaW.PrintWords.cell_kept (hHeld.2.2.2.2.2.2.2.2) hkp (by first | (rw [add_block]; exact (fun hs_ => ((((Kd.R_apart' HO_5.out (Kd.R_typed HO_179006.out) (by decide))).1 _ rfl).2) hs_)) | (show ¬ _; simp only [add_block]; exact (fun hs_ => ((((Kd.R_apart' HO_5.out (Kd.R_typed HO_179006.out) (by decide))).1 _ rfl).2) hs_)) | exact (fun hs_ => ((((Kd.R_apart' HO_5.out (Kd.R_typed HO_179006.out) (by decide))).1 _ rfl).2) hs_))
                          refine ⟨_, rfl, ?_⟩
                          have n0_ := Aside0.mk (Kd.R_mono (ok' := fun k_ => True) (Kd.R_keptB ((Kd.R_apart' HO_5.out (Kd.R_typed HO_179006.out) (by decide))) hkp (fun k_ hk_ hs_ => (hk_.2) hs_)) (fun k_ hk_ => trivial))
                          have n1_ := Aside0.mk (blk_kept (by (with_reducible repeat (first | refine blk_drewN ?_ _ | refine blk_drew ?_ | refine blk_alloc ?_ _)); exact BK163.out) hkp (fun hs_ => (fun e_ => (Kd.R_ne HO_179006.out BK163.out (by decide)) e_) hs_))
                          have n2_ := Aside0.mk (blk_kept (by (with_reducible repeat (first | refine blk_drewN ?_ _ | refine blk_drew ?_ | refine blk_alloc ?_ _)); exact BK178.out) hkp (fun hs_ => (fun e_ => (Kd.R_ne HO_179006.out BK178.out (by decide)) e_) hs_))
                          have n3_ := Aside0.mk (Kd.R_mono (ok' := fun k_ => True) ho0 (fun k_ hk_ => trivial))
                          have n4_ := Aside0.mk (hb)
                          clear HO_5
                          clear BK163
                          clear BK178
                          clear HB
                          clear HO_179006
                          have HO_5 := n0_
                          have BK163 := n1_
                          have BK178 := n2_
                          have HO189 := n3_
                          have HB := n4_
                          clear n0_ n1_ n2_ n3_ n4_
                          (try clear hb)
                          (try clear hkp)
                          (try clear ho0)
                          refine hK.out _ _ ⟨(blk_cell BK178.out 0).trans rfl, (blk_cell BK178.out 1).trans rfl, (blk_cell BK178.out 2).trans rfl, (blk_cell BK178.out 3).trans rfl, (blk_cell BK178.out 4).trans rfl, (blk_cell BK178.out 5).trans rfl, (blk_cell BK178.out 6).trans rfl, HS7_, HS8_⟩ (fun hHeld => ?_)
                          clear hK K
                          refine norm_ (a' := ?_) ?_ ?_
                          rotate_left
                          · show Act.put _ (some 50) _ = _
                            simp only [Act.put, List.setIfInBounds_toArray, List.set_cons_zero, List.set_cons_succ, i64_w, i32_w]
                            rfl
                          refine pure_ (i := 11) (N := some 39) (v := ?_) (a' := ?_) #[true, true, true, true, true, true, true, true, true, true, true, true, false, false, false, false, false] rfl rfl (any_of HT_.out (by kernel_rfl)) (fun _ _ _ h => h) (Or.inl ⟨by rfl, ?_⟩) ?_ ?_
                          rotate_left
                          · intro w'
                            go_simp
                            with_reducible rfl
                          rotate_left
                          · simp only [Act.put, List.setIfInBounds_toArray, List.set_cons_zero, List.set_cons_succ, i64_w, i32_w]
                            rfl
                          refine pure_ (i := 12) (N := some 51) (v := ?_) (a' := ?_) #[true, true, true, true, true, true, true, true, true, true, true, true, true, false, false, false, false] rfl rfl (any_of HT_.out (by kernel_rfl)) (fun _ _ _ h => h) (Or.inl ⟨by rfl, ?_⟩) ?_ ?_
                          rotate_left
                          · intro w'
                            go_simp
                            with_reducible rfl
                          rotate_left
                          · simp only [Act.put, List.setIfInBounds_toArray, List.set_cons_zero, List.set_cons_succ, i64_w, i32_w]
                            rfl
                          refine pure_ (i := 13) (N := some 52) (v := ?_) (a' := ?_) #[true, true, true, true, true, true, true, true, true, true, true, true, true, true, false, false, false] rfl rfl (any_of HT_.out (by kernel_rfl)) (fun _ _ _ h => h) (Or.inl ⟨by rfl, ?_⟩) ?_ ?_
                          rotate_left
                          · intro w'
                            go_simp
                            with_reducible rfl
                          rotate_left
                          · simp only [Act.put, List.setIfInBounds_toArray, List.set_cons_zero, List.set_cons_succ, i64_w, i32_w]
                            rfl
                          refine one_ (i := 14) (N := some 9) #[true, true, true, true, true, true, true, true, true, true, true, true, true, true, true, false, false] rfl rfl (one_of HT_.out (by kernel_rfl)) (by decide) (fun K hK => ?_)
                          refine box_step ?hg (N := 9) ?hd (cs := #[.int .i64 0, .int .i64 0, .int .i64 0, .int .i64 0, .int .i64 0, .bool false, .slice none 0 0]) (t := 28) ?hr ?_; (case hd => rfl); (case hg => rfl); (case hr => first | (go_simp; done) | (go_simp; rfl))
                          intro gb191 hg w25 hbox hb
                          have HS7_ := (hb.cell (World.block_lt_of_cell? _ _ (hHeld.2.2.2.2.2.2.2.1))).trans (hHeld.2.2.2.2.2.2.2.1)
                          have HS8_ := (hb.cell (World.block_lt_of_cell? _ _ (hHeld.2.2.2.2.2.2.2.2))).trans (hHeld.2.2.2.2.2.2.2.2)
                          have n0_ := Aside0.mk (Kd.R_below (by (with_reducible repeat (first | apply Kd.R_alloc | apply Kd.R_drewN | apply Kd.R_drew)); exact HO_5.out) hb)
                          have n1_ := Aside0.mk (Kd.R_below (by (with_reducible repeat (first | apply Kd.R_alloc | apply Kd.R_drewN | apply Kd.R_drew)); exact HO189.out) hb)
                          have n2_ := Aside0.mk (blk_below (g := gb163) (o := .cells #[.int .i64 x164000_2, .int .i64 x164001_2, .int .i64 x164002_2, .int .i64 x164003_2, .int .i64 x164004_2, .bool x164005_2, .slice none 0 0] 28 (0, 0)) (by (with_reducible repeat (first | refine blk_drewN ?_ _ | refine blk_drew ?_ | refine blk_alloc ?_ _)); exact BK163.out) hb)
                          have n3_ := Aside0.mk (blk_below (g := gb178) (o := .cells #[.int .i64 x179000_2, .int .i64 x179001_2, .int .i64 x179002_2, .int .i64 x179003_2, .int .i64 x179004_2, .bool x179005_2, .slice Ao22 x179006_2.length co22] 28 (0, 0)) (by (with_reducible repeat (first | refine blk_drewN ?_ _ | refine blk_drew ?_ | refine blk_alloc ?_ _)); exact BK178.out) hb)
                          have n4_ := Aside0.mk (below_step (by repeat (first | (with_reducible first | exact HB.out | apply below_alloc | apply pw_below_drewN | apply below_drew1 | refine below_set ?_ GE163.out | refine below_set ?_ GE178.out) | exact HB.out)) hb)
                          have n5_ := Aside0.mk (hbox)
                          have n6_ := Aside0.mk ((by rw [hg]; exact (below_size (by repeat (first | (with_reducible first | exact HB.out | apply below_alloc | apply pw_below_drewN | apply below_drew1 | refine below_set ?_ GE163.out | refine below_set ?_ GE178.out) | exact HB.out))) : w.heap.size ≤ gb191))
                          have n7_ := Aside0.mk ((by rw [hg]; exact (below_size (by repeat (first | (with_reducible first | exact HB.out | apply below_alloc | apply pw_below_drewN | apply below_drew1 | refine below_set ?_ GE163.out | refine below_set ?_ GE178.out) | exact HB.out))) : w.heap.size ≤ gb191))
                          have n8_ := Aside0.mk ((by rw [hg]; exact Nat.ne_of_lt (blk_lt (g := gb163) (o := .cells #[.int .i64 x164000_2, .int .i64 x164001_2, .int .i64 x164002_2, .int .i64 x164003_2, .int .i64 x164004_2, .bool x164005_2, .slice none 0 0] 28 (0, 0)) (by (with_reducible repeat (first | refine blk_drewN ?_ _ | refine blk_drew ?_ | refine blk_alloc ?_ _)); exact BK163.out)) : gb163 ≠ gb191))
                          have n9_ := Aside0.mk ((by rw [hg]; exact Nat.ne_of_gt (blk_lt (g := gb163) (o := .cells #[.int .i64 x164000_2, .int .i64 x164001_2, .int .i64 x164002_2, .int .i64 x164003_2, .int .i64 x164004_2, .bool x164005_2, .slice none 0 0] 28 (0, 0)) (by (with_reducible repeat (first | refine blk_drewN ?_ _ | refine blk_drew ?_ | refine blk_alloc ?_ _)); exact BK163.out)) : gb191 ≠ gb163))
                          have n10_ := Aside0.mk ((by rw [hg]; exact Nat.ne_of_lt (blk_lt (g := gb178) (o := .cells #[.int .i64 x179000_2, .int .i64 x179001_2, .int .i64 x179002_2, .int .i64 x179003_2, .int .i64 x179004_2, .bool x179005_2, .slice Ao22 x179006_2.length co22] 28 (0, 0)) (by (with_reducible repeat (first | refine blk_drewN ?_ _ | refine blk_drew ?_ | refine blk_alloc ?_ _)); exact BK178.out)) : gb178 ≠ gb191))
                          have n11_ := Aside0.mk ((by rw [hg]; exact Nat.ne_of_gt (blk_lt (g := gb178) (o := .cells #[.int .i64 x179000_2, .int .i64 x179001_2, .int .i64 x179002_2, .int .i64 x179003_2, .int .i64 x179004_2, .bool x179005_2, .slice Ao22 x179006_2.length co22] 28 (0, 0)) (by (with_reducible repeat (first | refine blk_drewN ?_ _ | refine blk_drew ?_ | refine blk_alloc ?_ _)); exact BK178.out)) : gb191 ≠ gb178))
                          clear HO_5
                          clear HO189
                          clear BK163
                          clear BK178
                          clear HB
                          have HO_5 := n0_
                          have HO189 := n1_
                          have BK163 := n2_
                          have BK178 := n3_
                          have HB := n4_
                          have BK191 := n5_
                          have GW191 := n6_
                          have GE191 := n7_
                          have NB163_191 := n8_
                          have NB191_163 := n9_
                          have NB178_191 := n10_
                          have NB191_178 := n11_
                          clear n0_ n1_ n2_ n3_ n4_ n5_ n6_ n7_ n8_ n9_ n10_ n11_
                          clear hb hbox hg
                          refine hK.out _ _ ⟨(blk_cell BK178.out 0).trans rfl, (blk_cell BK178.out 1).trans rfl, (blk_cell BK178.out 2).trans rfl, (blk_cell BK178.out 3).trans rfl, (blk_cell BK178.out 4).trans rfl, (blk_cell BK178.out 5).trans rfl, (blk_cell BK178.out 6).trans rfl, HS7_, HS8_⟩ (fun hHeld => ?_)
                          clear hK K
                          refine norm_ (a' := ?_) ?_ ?_
                          rotate_left
                          · show Act.put _ (some 9) _ = _
                            simp only [Act.put, List.setIfInBounds_toArray, List.set_cons_zero, List.set_cons_succ, i64_w, i32_w]
                            rfl
                          exact norm_ (by simp only [putAll, Act.put, List.setIfInBounds_toArray, List.set_cons_zero, List.set_cons_succ]) (hCont (v188, gb191) _ ⟨hHeld, (by (with_reducible repeat (first | apply Kd.R_alloc | apply Kd.R_drewN | apply Kd.R_drew)); exact HO189.out), (by (with_reducible repeat (first | apply Kd.R_alloc | apply Kd.R_drewN | apply Kd.R_drew)); exact HO_5.out), (by (with_reducible repeat (first | refine blk_drewN ?_ _ | refine blk_drew ?_ | refine blk_alloc ?_ _)); exact BK163.out), (by (with_reducible repeat (first | refine blk_drewN ?_ _ | refine blk_drew ?_ | refine blk_alloc ?_ _)); exact BK178.out), (by (with_reducible repeat (first | refine blk_drewN ?_ _ | refine blk_drew ?_ | refine blk_alloc ?_ _)); exact BK191.out), GW191.out, GE191.out, NB163_191.out, NB191_163.out, NB178_191.out, NB191_178.out, (by repeat (first | (with_reducible first | exact HB.out | apply below_alloc | apply pw_below_drewN | apply below_drew1 | refine below_set ?_ GE163.out | refine below_set ?_ GE178.out | refine below_set ?_ GE191.out) | exact HB.out))⟩)
                        · skip
                          refine box_step ?hg (N := 9) ?hd (cs := #[.int .i64 0, .int .i64 0, .int .i64 0, .int .i64 0, .int .i64 0, .bool false, .slice none 0 0]) (t := 28) ?hr ?_; (case hd => rfl); (case hg => rfl); (case hr => first | (go_simp; done) | (go_simp; rfl))
                          intro gb191 hg w24 hbox hb
                          have HS7_ := (hb.cell (World.block_lt_of_cell? _ _ (hHeld.2.2.2.2.2.2.2.1))).trans (hHeld.2.2.2.2.2.2.2.1)
                          have HS8_ := (hb.cell (World.block_lt_of_cell? _ _ (hHeld.2.2.2.2.2.2.2.2))).trans (hHeld.2.2.2.2.2.2.2.2)
                          have n0_ := Aside0.mk (Kd.R_below (by (with_reducible repeat (first | apply Kd.R_alloc | apply Kd.R_drewN | apply Kd.R_drew)); exact HO_5.out) hb)
                          have n1_ := Aside0.mk (Kd.R_below (by (with_reducible repeat (first | apply Kd.R_alloc | apply Kd.R_drewN | apply Kd.R_drew)); exact HO_179006.out) hb)
                          have n2_ := Aside0.mk (blk_below (g := gb163) (o := .cells #[.int .i64 x164000_2, .int .i64 x164001_2, .int .i64 x164002_2, .int .i64 x164003_2, .int .i64 x164004_2, .bool x164005_2, .slice none 0 0] 28 (0, 0)) (by (with_reducible repeat (first | refine blk_drewN ?_ _ | refine blk_drew ?_ | refine blk_alloc ?_ _)); exact BK163.out) hb)
                          have n3_ := Aside0.mk (blk_below (g := gb178) (o := .cells #[.int .i64 x179000_2, .int .i64 x179001_2, .int .i64 x179002_2, .int .i64 x179003_2, .int .i64 x179004_2, .bool x179005_2, .slice Ao22 x179006_2.length co22] 28 (0, 0)) (by (with_reducible repeat (first | refine blk_drewN ?_ _ | refine blk_drew ?_ | refine blk_alloc ?_ _)); exact BK178.out) hb)
                          have n4_ := Aside0.mk (below_step (by repeat (first | (with_reducible first | exact HB.out | apply below_alloc | apply pw_below_drewN | apply below_drew1 | refine below_set ?_ GE163.out | refine below_set ?_ GE178.out) | exact HB.out)) hb)
                          have n5_ := Aside0.mk (hbox)
                          have n6_ := Aside0.mk ((by rw [hg]; exact (below_size (by repeat (first | (with_reducible first | exact HB.out | apply below_alloc | apply pw_below_drewN | apply below_drew1 | refine below_set ?_ GE163.out | refine below_set ?_ GE178.out) | exact HB.out))) : w.heap.size ≤ gb191))
                          have n7_ := Aside0.mk ((by rw [hg]; exact (below_size (by repeat (first | (with_reducible first | exact HB.out | apply below_alloc | apply pw_below_drewN | apply below_drew1 | refine below_set ?_ GE163.out | refine below_set ?_ GE178.out) | exact HB.out))) : w.heap.size ≤ gb191))
                          have n8_ := Aside0.mk ((by rw [hg]; exact Nat.ne_of_lt (blk_lt (g := gb163) (o := .cells #[.int .i64 x164000_2, .int .i64 x164001_2, .int .i64 x164002_2, .int .i64 x164003_2, .int .i64 x164004_2, .bool x164005_2, .slice none 0 0] 28 (0, 0)) (by (with_reducible repeat (first | refine blk_drewN ?_ _ | refine blk_drew ?_ | refine blk_alloc ?_ _)); exact BK163.out)) : gb163 ≠ gb191))
                          have n9_ := Aside0.mk ((by rw [hg]; exact Nat.ne_of_gt (blk_lt (g := gb163) (o := .cells #[.int .i64 x164000_2, .int .i64 x164001_2, .int .i64 x164002_2, .int .i64 x164003_2, .int .i64 x164004_2, .bool x164005_2, .slice none 0 0] 28 (0, 0)) (by (with_reducible repeat (first | refine blk_drewN ?_ _ | refine blk_drew ?_ | refine blk_alloc ?_ _)); exact BK163.out)) : gb191 ≠ gb163))
                          have n10_ := Aside0.mk ((by rw [hg]; exact Nat.ne_of_lt (blk_lt (g := gb178) (o := .cells #[.int .i64 x179000_2, .int .i64 x179001_2, .int .i64 x179002_2, .int .i64 x179003_2, .int .i64 x179004_2, .bool x179005_2, .slice Ao22 x179006_2.length co22] 28 (0, 0)) (by (with_reducible repeat (first | refine blk_drewN ?_ _ | refine blk_drew ?_ | refine blk_alloc ?_ _)); exact BK178.out)) : gb178 ≠ gb191))
                          have n11_ := Aside0.mk ((by rw [hg]; exact Nat.ne_of_gt (blk_lt (g := gb178) (o := .cells #[.int .i64 x179000_2, .int .i64 x179001_2, .int .i64 x179002_2, .int .i64 x179003_2, .int .i64 x179004_2, .bool x179005_2, .slice Ao22 x179006_2.length co22] 28 (0, 0)) (by (with_reducible repeat (first | refine blk_drewN ?_ _ | refine blk_drew ?_ | refine blk_alloc ?_ _)); exact BK178.out)) : gb191 ≠ gb178))
                          clear HO_5
                          clear HO_179006
                          clear BK163
                          clear BK178
                          clear HB
                          have HO_5 := n0_
                          have HO_179006 := n1_
                          have BK163 := n2_
                          have BK178 := n3_
                          have HB := n4_
                          have BK191 := n5_
                          have GW191 := n6_
                          have GE191 := n7_
                          have NB163_191 := n8_
                          have NB191_163 := n9_
                          have NB178_191 := n10_
                          have NB191_178 := n11_
                          clear n0_ n1_ n2_ n3_ n4_ n5_ n6_ n7_ n8_ n9_ n10_ n11_
                          clear hb hbox hg
                          refine hK.out _ _ ⟨(blk_cell BK178.out 0).trans rfl, (blk_cell BK178.out 1).trans rfl, (blk_cell BK178.out 2).trans rfl, (blk_cell BK178.out 3).trans rfl, (blk_cell BK178.out 4).trans rfl, (blk_cell BK178.out 5).trans rfl, (blk_cell BK178.out 6).trans rfl, HS7_, HS8_⟩ (fun hHeld => ?_)
                          clear hK K
                          refine norm_ (a' := ?_) ?_ ?_
                          rotate_left
                          · show Act.put _ (some 9) _ = _
                            simp only [Act.put, List.setIfInBounds_toArray, List.set_cons_zero, List.set_cons_succ, i64_w, i32_w]
                            rfl
                          refine one_ (i := 10) (N := some 50) #[true, true, true, true, true, true, true, true, true, true, true, false, false, false, true, false, false] rfl rfl (one_of HT_.out (by kernel_rfl)) (by decide) (fun K hK => ?_)
                          refine goes_ Try.func11 (by kernel_rfl) rfl #[.agg #[.int .i64 x179000_2, .int .i64 x179001_2, .int .i64 x179002_2, .int .i64 x179003_2, .int .i64 x179004_2, .bool x179005_2, .slice Ao22 x179006_2.length co22], .int .i32 (rd x5_1 x8_2), .int .i32 (rd x5_1 (ji17))] (by rfl) rfl rfl (by (try simp only [List.map_toArray, List.map_cons, List.map_nil]); first | done | (simp only [hji17]; rfl) | rfl | (simp only [List.length_drop, List.length_take]; rfl)) ?_
                          with_reducible refine (pascalineref32_Do.calls k2 x179000_2 x179001_2 x179002_2 x179003_2 x179004_2 x179005_2 (fun k_ => some k_ = (.slice Ao22 x179006_2.length co22 : Value).ownBlock) (.slice Ao22 x179006_2.length co22) x179006_2 (rd x5_1 x8_2) (rd x5_1 (ji17)) t181 t182 t183 t184 t185 t186 t187 t190 w _ ?side1 ?side2 A19.out).mono ?_
                          (case side1 => repeat (first | (with_reducible first | exact HB.out | apply below_alloc | apply pw_below_drewN | apply below_drew1 | refine below_set ?_ GE163.out | refine below_set ?_ GE178.out | refine below_set ?_ GE191.out) | exact HB.out))
                          (case side2 => exact Kd.R_tight rfl HO_179006.out)
                          rintro e w25 ⟨v188, rfl, ho0, hb, hkp⟩
                          have HS7_ := Go.Proofs.YtbfepcajbbeheaaW.PrintWords.cell_kept (hHeld.2.2.2.2.2.2.2.1) hkp (by first | (rw [add_block]; exact (fun hs_ => ((((Kd.R_apart' HO_5.out (Kd.R_typed HO_179006.out) (by decide))).1 _ rfl).2) hs_)) | (show ¬ _; simp only [add_block]; exact (fun hs_ => ((((Kd.R_apart' HO_5.out (Kd.R_typed HO_179006.out) (by decide))).1 _ rfl).2) hs_)) | exact (fun hs_ => ((((Kd.R_apart' HO_5.out (Kd.R_typed HO_179006.out) (by decide))).1 _ rfl).2) hs_))
                          have HS8_ := Go.Proofs.YtbfepcajbbeheaaW.PrintWords.cell_kept (hHeld.2.2.2.2.2.2.2.2) hkp (by first | (rw [add_block]; exact (fun hs_ => ((((Kd.R_apart' HO_5.out (Kd.R_typed HO_179006.out) (by decide))).1 _ rfl).2) hs_)) | (show ¬ _; simp only [add_block]; exact (fun hs_ => ((((Kd.R_apart' HO_5.out (Kd.R_typed HO_179006.out) (by decide))).1 _ rfl).2) hs_)) | exact (fun hs_ => ((((Kd.R_apart' HO_5.out (Kd.R_typed HO_179006.out) (by decide))).1 _ rfl).2) hs_))
                          refine ⟨_, rfl, ?_⟩
                          have n0_ := Aside0.mk (Kd.R_mono (ok' := fun k_ => True) (Kd.R_keptB ((Kd.R_apart' HO_5.out (Kd.R_typed HO_179006.out) (by decide))) hkp (fun k_ hk_ hs_ => (hk_.2) hs_)) (fun k_ hk_ => trivial))
                          have n1_ := Aside0.mk (blk_kept (by (with_reducible repeat (first | refine blk_drewN ?_ _ | refine blk_drew ?_ | refine blk_alloc ?_ _)); exact BK163.out) hkp (fun hs_ => (fun e_ => (Kd.R_ne HO_179006.out BK163.out (by decide)) e_) hs_))
                          have n2_ := Aside0.mk (blk_kept (by (with_reducible repeat (first | refine blk_drewN ?_ _ | refine blk_drew ?_ | refine blk_alloc ?_ _)); exact BK178.out) hkp (fun hs_ => (fun e_ => (Kd.R_ne HO_179006.out BK178.out (by decide)) e_) hs_))
                          have n3_ := Aside0.mk (blk_kept (by (with_reducible repeat (first | refine blk_drewN ?_ _ | refine blk_drew ?_ | refine blk_alloc ?_ _)); exact BK191.out) hkp (fun hs_ => (fun e_ => (Kd.R_ne HO_179006.out BK191.out (by decide)) e_) hs_))
                          have n4_ := Aside0.mk (Kd.R_mono (ok' := fun k_ => True) ho0 (fun k_ hk_ => trivial))
                          have n5_ := Aside0.mk (hb)
                          clear HO_5
                          clear BK163
                          clear BK178
                          clear BK191
                          clear HB
                          clear HO_179006
                          have HO_5 := n0_
                          have BK163 := n1_
                          have BK178 := n2_
                          have BK191 := n3_
                          have HO189 := n4_
                          have HB := n5_
                          clear n0_ n1_ n2_ n3_ n4_ n5_
                          (try clear hb)
                          (try clear hkp)
                          (try clear ho0)
                          refine hK.out _ _ ⟨(blk_cell BK178.out 0).trans rfl, (blk_cell BK178.out 1).trans rfl, (blk_cell BK178.out 2).trans rfl, (blk_cell BK178.out 3).trans rfl, (blk_cell BK178.out 4).trans rfl, (blk_cell BK178.out 5).trans rfl, (blk_cell BK178.out 6).trans rfl, HS7_, HS8_⟩ (fun hHeld => ?_)
                          clear hK K
                          refine norm_ (a' := ?_) ?_ ?_
                          rotate_left
                          · show Act.put _ (some 50) _ = _
                            simp only [Act.put, List.setIfInBounds_toArray, List.set_cons_zero, List.set_cons_succ, i64_w, i32_w]
                            rfl
                          refine pure_ (i := 11) (N := some 39) (v := ?_) (a' := ?_) #[true, true, true, true, true, true, true, true, true, true, true, true, false, false, true, false, false] rfl rfl (any_of HT_.out (by kernel_rfl)) (fun _ _ _ h => h) (Or.inl ⟨by rfl, ?_⟩) ?_ ?_
                          rotate_left
                          · intro w'
                            go_simp
                            with_reducible rfl
                          rotate_left
                          · simp only [Act.put, List.setIfInBounds_toArray, List.set_cons_zero, List.set_cons_succ, i64_w, i32_w]
                            rfl
                          refine pure_ (i := 12) (N := some 51) (v := ?_) (a' := ?_) #[true, true, true, true, true, true, true, true, true, true, true, true, true, false, true, false, false] rfl rfl (any_of HT_.out (by kernel_rfl)) (fun _ _ _ h => h) (Or.inl ⟨by rfl, ?_⟩) ?_ ?_
                          rotate_left
                          · intro w'
                            go_simp
                            with_reducible rfl
                          rotate_left
                          · simp only [Act.put, List.setIfInBounds_toArray, List.set_cons_zero, List.set_cons_succ, i64_w, i32_w]
                            rfl
                          refine pure_ (i := 13) (N := some 52) (v := ?_) (a' := ?_) #[true, true, true, true, true, true, true, true, true, true, true, true, true, true, true, false, false] rfl rfl (any_of HT_.out (by kernel_rfl)) (fun _ _ _ h => h) (Or.inl ⟨by rfl, ?_⟩) ?_ ?_
                          rotate_left
                          · intro w'
                            go_simp
                            with_reducible rfl
                          rotate_left
                          · simp only [Act.put, List.setIfInBounds_toArray, List.set_cons_zero, List.set_cons_succ, i64_w, i32_w]
                            rfl
                          exact norm_ (by simp only [putAll, Act.put, List.setIfInBounds_toArray, List.set_cons_zero, List.set_cons_succ]) (hCont (v188, gb191) _ ⟨hHeld, (by (with_reducible repeat (first | apply Kd.R_alloc | apply Kd.R_drewN | apply Kd.R_drew)); exact HO189.out), (by (with_reducible repeat (first | apply Kd.R_alloc | apply Kd.R_drewN | apply Kd.R_drew)); exact HO_5.out), (by (with_reducible repeat (first | refine blk_drewN ?_ _ | refine blk_drew ?_ | refine blk_alloc ?_ _)); exact BK163.out), (by (with_reducible repeat (first | refine blk_drewN ?_ _ | refine blk_drew ?_ | refine blk_alloc ?_ _)); exact BK178.out), (by (with_reducible repeat (first | refine blk_drewN ?_ _ | refine blk_drew ?_ | refine blk_alloc ?_ _)); exact BK191.out), GW191.out, GE191.out, NB163_191.out, NB191_163.out, NB178_191.out, NB191_178.out, (by repeat (first | (with_reducible first | exact HB.out | apply below_alloc | apply pw_below_drewN | apply below_drew1 | refine below_set ?_ GE163.out | refine below_set ?_ GE178.out | refine below_set ?_ GE191.out) | exact HB.out))⟩)
                      rintro ⟨v188, gb191⟩ w26 ⟨hS_, h0_, h1_, h2_, h3_, h4_, h5_, h6_, h7_, h8_, h9_, h10_, h11_⟩
                      have n0_ : Aside0 (Kd.R k70 70 w26 w.heap.size (fun _ => True) v188 t187) := ⟨h0_⟩
                      have n1_ : Aside0 (Kd.R (Kd.int .i32) 21 w26 w.heap.size (fun _ => True) (.slice (some ad179) x5_1.length co21) x5_1) := ⟨h1_⟩
                      have n2_ : Aside0 (w26.heap[gb163]? = some (.cells #[.int .i64 x164000_2, .int .i64 x164001_2, .int .i64 x164002_2, .int .i64 x164003_2, .int .i64 x164004_2, .bool x164005_2, .slice none 0 0] 28 (0, 0))) := ⟨h2_⟩
                      have n3_ : Aside0 (w26.heap[gb178]? = some (.cells #[.int .i64 x179000_2, .int .i64 x179001_2, .int .i64 x179002_2, .int .i64 x179003_2, .int .i64 x179004_2, .bool x179005_2, .slice Ao22 x179006_2.length co22] 28 (0, 0))) := ⟨h3_⟩
                      have n4_ : Aside0 (w26.heap[gb191]? = some (.cells #[.int .i64 0, .int .i64 0, .int .i64 0, .int .i64 0, .int .i64 0, .bool false, .slice none 0 0] 28 (0, 0))) := ⟨h4_⟩
                      have n5_ : Aside0 (w.heap.size ≤ gb191) := ⟨h5_⟩
                      have n6_ : Aside0 (w.heap.size ≤ gb191) := ⟨h6_⟩
                      have n7_ : Aside0 (gb163 ≠ gb191) := ⟨h7_⟩
                      have n8_ : Aside0 (gb191 ≠ gb163) := ⟨h8_⟩
                      have n9_ : Aside0 (gb178 ≠ gb191) := ⟨h9_⟩
                      have n10_ : Aside0 (gb191 ≠ gb178) := ⟨h10_⟩
                      have n11_ : Aside0 (Below w.heap.size w w26) := ⟨h11_⟩
                      clear HO_5
                      clear HO_179006
                      clear BK163
                      clear BK178
                      clear HB
                      clear h0_ h1_ h2_ h3_ h4_ h5_ h6_ h7_ h8_ h9_ h10_ h11_
                      have HO189 := n0_
                      have HO_5 := n1_
                      have BK163 := n2_
                      have BK178 := n3_
                      have BK191 := n4_
                      have GW191 := n5_
                      have GE191 := n6_
                      have NB163_191 := n7_
                      have NB191_163 := n8_
                      have NB178_191 := n9_
                      have NB191_178 := n10_
                      have HB := n11_
                      clear n0_ n1_ n2_ n3_ n4_ n5_ n6_ n7_ n8_ n9_ n10_ n11_
                      have hHeld : w26.cell? ⟨gb178, 0, none⟩ = some (.int .i64 x179000_2) ∧ w26.cell? ⟨gb178, 1, none⟩ = some (.int .i64 x179001_2) ∧ w26.cell? ⟨gb178, 2, none⟩ = some (.int .i64 x179002_2) ∧ w26.cell? ⟨gb178, 3, none⟩ = some (.int .i64 x179003_2) ∧ w26.cell? ⟨gb178, 4, none⟩ = some (.int .i64 x179004_2) ∧ w26.cell? ⟨gb178, 5, none⟩ = some (.bool x179005_2) ∧ w26.cell? ⟨gb178, 6, none⟩ = some (.slice Ao22 x179006_2.length co22) ∧ w26.cell? (ad179.add (x8_2).toNat) = some (.int .i32 (rd x5_1 x8_2)) ∧ w26.cell? (ad179.add ((ji17)).toNat) = some (.int .i32 (rd x5_1 (ji17))) := hS_
                      obtain ⟨Ao33, co33, eo33⟩ := Kd.R_slice HO189.out
                      (first | subst eo33 | (injection eo33 with f1_ f2_ f3_; have f4_ := f1_.symm; have f5_ := f3_.symm; clear f1_ f2_ f3_; subst f4_; subst f5_))
                      refine norm_ (a' := ?_) ?_ ?_
                      rotate_left
                      · simp only [putAll, Act.put, List.setIfInBounds_toArray, List.set_cons_zero, List.set_cons_succ]
                        rfl
                      refine one_ (i := 15) (N := none) #[true, true, true, true, true, true, true, true, true, true, true, true, true, true, true, true, false] rfl rfl (one_of HT_.out (by kernel_rfl)) (by decide) (fun K hK => ?_)
                      have hs27 : w26.cell? ⟨gb191, 0, none⟩ = some (.int .i64 0) := (blk_cell BK191.out 0).trans rfl
                      have hfs27 := blk_frozen BK191.out 0
                      have hns27_0 := NB163_191.out
                      have hns27_1 := NB178_191.out
                      have hms27_0 := NB191_163.out
                      have hms27_1 := NB191_178.out
                      have hs28 : w26.cell? ⟨gb191, 1, none⟩ = some (.int .i64 0) := (blk_cell BK191.out 1).trans rfl
                      have hfs28 := blk_frozen BK191.out 1
                      have hns28_0 := NB163_191.out
                      have hns28_1 := NB178_191.out
                      have hms28_0 := NB191_163.out
                      have hms28_1 := NB191_178.out
                      have hs29 : w26.cell? ⟨gb191, 2, none⟩ = some (.int .i64 0) := (blk_cell BK191.out 2).trans rfl
                      have hfs29 := blk_frozen BK191.out 2
                      have hns29_0 := NB163_191.out
                      have hns29_1 := NB178_191.out
                      have hms29_0 := NB191_163.out
                      have hms29_1 := NB191_178.out
                      have hs30 : w26.cell? ⟨gb191, 3, none⟩ = some (.int .i64 0) := (blk_cell BK191.out 3).trans rfl
                      have hfs30 := blk_frozen BK191.out 3
                      have hns30_0 := NB163_191.out
                      have hns30_1 := NB178_191.out
                      have hms30_0 := NB191_163.out
                      have hms30_1 := NB191_178.out
                      have hs31 : w26.cell? ⟨gb191, 4, none⟩ = some (.int .i64 0) := (blk_cell BK191.out 4).trans rfl
                      have hfs31 := blk_frozen BK191.out 4
                      have hns31_0 := NB163_191.out
                      have hns31_1 := NB178_191.out
                      have hms31_0 := NB191_163.out
                      have hms31_1 := NB191_178.out
                      have hs32 : w26.cell? ⟨gb191, 5, none⟩ = some (.bool false) := (blk_cell BK191.out 5).trans rfl
                      have hfs32 := blk_frozen BK191.out 5
                      have hns32_0 := NB163_191.out
                      have hns32_1 := NB178_191.out
                      have hms32_0 := NB191_163.out
                      have hms32_1 := NB191_178.out
                      have hs34 : w26.cell? ⟨gb191, 6, none⟩ = some (.slice none 0 0) := (blk_cell BK191.out 6).trans rfl
                      have hfs34 := blk_frozen BK191.out 6
                      have hns34_0 := NB163_191.out
                      have hns34_1 := NB178_191.out
                      have hms34_0 := NB191_163.out
                      have hms34_1 := NB191_178.out
                      refine skip_ (w1 := ?_) (by rfl) rfl ?_ ?_
                      rotate_left
                      · go_simp
                        rfl
                      refine hK.out _ _ ⟨((cell_far (p := ⟨gb191, _, none⟩) NB178_191.out _).trans (((cell_far (p := ⟨gb191, _, none⟩) NB178_191.out _).trans (((cell_far (p := ⟨gb191, _, none⟩) NB178_191.out _).trans (((cell_far (p := ⟨gb191, _, none⟩) NB178_191.out _).trans (((cell_far (p := ⟨gb191, _, none⟩) NB178_191.out _).trans (((cell_far (p := ⟨gb191, _, none⟩) NB178_191.out _).trans (((cell_far (p := ⟨gb191, _, none⟩) NB178_191.out _).trans (hHeld.1)))))))))))))), ((cell_far (p := ⟨gb191, _, none⟩) NB178_191.out _).trans (((cell_far (p := ⟨gb191, _, none⟩) NB178_191.out _).trans (((cell_far (p := ⟨gb191, _, none⟩) NB178_191.out _).trans (((cell_far (p := ⟨gb191, _, none⟩) NB178_191.out _).trans (((cell_far (p := ⟨gb191, _, none⟩) NB178_191.out _).trans (((cell_far (p := ⟨gb191, _, none⟩) NB178_191.out _).trans (((cell_far (p := ⟨gb191, _, none⟩) NB178_191.out _).trans (hHeld.2.1)))))))))))))), ((cell_far (p := ⟨gb191, _, none⟩) NB178_191.out _).trans (((cell_far (p := ⟨gb191, _, none⟩) NB178_191.out _).trans (((cell_far (p := ⟨gb191, _, none⟩) NB178_191.out _).trans (((cell_far (p := ⟨gb191, _, none⟩) NB178_191.out _).trans (((cell_far (p := ⟨gb191, _, none⟩) NB178_191.out _).trans (((cell_far (p := ⟨gb191, _, none⟩) NB178_191.out _).trans (((cell_far (p := ⟨gb191, _, none⟩) NB178_191.out _).trans (hHeld.2.2.1)))))))))))))), ((cell_far (p := ⟨gb191, _, none⟩) NB178_191.out _).trans (((cell_far (p := ⟨gb191, _, none⟩) NB178_191.out _).trans (((cell_far (p := ⟨gb191, _, none⟩) NB178_191.out _).trans (((cell_far (p := ⟨gb191, _, none⟩) NB178_191.out _).trans (((cell_far (p := ⟨gb191, _, none⟩) NB178_191.out _).trans (((cell_far (p := ⟨gb191, _, none⟩) NB178_191.out _).trans (((cell_far (p := ⟨gb191, _, none⟩) NB178_191.out _).trans (hHeld.2.2.2.1)))))))))))))), ((cell_far (p := ⟨gb191, _, none⟩) NB178_191.out _).trans (((cell_far (p := ⟨gb191, _, none⟩) NB178_191.out _).trans (((cell_far (p := ⟨gb191, _, none⟩) NB178_191.out _).trans (((cell_far (p := ⟨gb191, _, none⟩) NB178_191.out _).trans (((cell_far (p := ⟨gb191, _, none⟩) NB178_191.out _).trans (((cell_far (p := ⟨gb191, _, none⟩) NB178_191.out _).trans (((cell_far (p := ⟨gb191, _, none⟩) NB178_191.out _).trans (hHeld.2.2.2.2.1)))))))))))))), ((cell_far (p := ⟨gb191, _, none⟩) NB178_191.out _).trans (((cell_far (p := ⟨gb191, _, none⟩) NB178_191.out _).trans (((cell_far (p := ⟨gb191, _, none⟩) NB178_191.out _).trans (((cell_far (p := ⟨gb191, _, none⟩) NB178_191.out _).trans (((cell_far (p := ⟨gb191, _, none⟩) NB178_191.out _).trans (((cell_far (p := ⟨gb191, _, none⟩) NB178_191.out _).trans (((cell_far (p := ⟨gb191, _, none⟩) NB178_191.out _).trans (hHeld.2.2.2.2.2.1)))))))))))))), ((cell_far (p := ⟨gb191, _, none⟩) NB178_191.out _).trans (((cell_far (p := ⟨gb191, _, none⟩) NB178_191.out _).trans (((cell_far (p := ⟨gb191, _, none⟩) NB178_191.out _).trans (((cell_far (p := ⟨gb191, _, none⟩) NB178_191.out _).trans (((cell_far (p := ⟨gb191, _, none⟩) NB178_191.out _).trans (((cell_far (p := ⟨gb191, _, none⟩) NB178_191.out _).trans (((cell_far (p := ⟨gb191, _, none⟩) NB178_191.out _).trans (hHeld.2.2.2.2.2.2.1)))))))))))))), ((cell_far (p := ⟨gb191, _, none⟩) (by first | exact Kd.own_blk (Kd.R_ne HO_5.out BK191.out (by decide)) | (rw [add_block]; exact Kd.own_blk (Kd.R_ne HO_5.out BK191.out (by decide))) | (show (Addr.add _ _).block ≠ _; rw [add_block]; exact Kd.own_blk (Kd.R_ne HO_5.out BK191.out (by decide))) | (dsimp only; exact Kd.own_blk (Kd.R_ne HO_5.out BK191.out (by decide)))) _).trans (((cell_far (p := ⟨gb191, _, none⟩) (by first | exact Kd.own_blk (Kd.R_ne HO_5.out BK191.out (by decide)) | (rw [add_block]; exact Kd.own_blk (Kd.R_ne HO_5.out BK191.out (by decide))) | (show (Addr.add _ _).block ≠ _; rw [add_block]; exact Kd.own_blk (Kd.R_ne HO_5.out BK191.out (by decide))) | (dsimp only; exact Kd.own_blk (Kd.R_ne HO_5.out BK191.out (by decide)))) _).trans (((cell_far (p := ⟨gb191, _, none⟩) (by first | exact Kd.own_blk (Kd.R_ne HO_5.out BK191.out (by decide)) | (rw [add_block]; exact Kd.own_blk (Kd.R_ne HO_5.out BK191.out (by decide))) | (show (Addr.add _ _).block ≠ _; rw [add_block]; exact Kd.own_blk (Kd.R_ne HO_5.out BK191.out (by decide))) | (dsimp only; exact Kd.own_blk (Kd.R_ne HO_5.out BK191.out (by decide)))) _).trans (((cell_far (p := ⟨gb191, _, none⟩) (by first | exact Kd.own_blk (Kd.R_ne HO_5.out BK191.out (by decide)) | (rw [add_block]; exact Kd.own_blk (Kd.R_ne HO_5.out BK191.out (by decide))) | (show (Addr.add _ _).block ≠ _; rw [add_block]; exact Kd.own_blk (Kd.R_ne HO_5.out BK191.out (by decide))) | (dsimp only; exact Kd.own_blk (Kd.R_ne HO_5.out BK191.out (by decide)))) _).trans (((cell_far (p := ⟨gb191, _, none⟩) (by first | exact Kd.own_blk (Kd.R_ne HO_5.out BK191.out (by decide)) | (rw [add_block]; exact Kd.own_blk (Kd.R_ne HO_5.out BK191.out (by decide))) | (show (Addr.add _ _).block ≠ _; rw [add_block]; exact Kd.own_blk (Kd.R_ne HO_5.out BK191.out (by decide))) | (dsimp only; exact Kd.own_blk (Kd.R_ne HO_5.out BK191.out (by decide)))) _).trans (((cell_far (p := ⟨gb191, _, none⟩) (by first | exact Kd.own_blk (Kd.R_ne HO_5.out BK191.out (by decide)) | (rw [add_block]; exact Kd.own_blk (Kd.R_ne HO_5.out BK191.out (by decide))) | (show (Addr.add _ _).block ≠ _; rw [add_block]; exact Kd.own_blk (Kd.R_ne HO_5.out BK191.out (by decide))) | (dsimp only; exact Kd.own_blk (Kd.R_ne HO_5.out BK191.out (by decide)))) _).trans (((cell_far (p := ⟨gb191, _, none⟩) (by first | exact Kd.own_blk (Kd.R_ne HO_5.out BK191.out (by decide)) | (rw [add_block]; exact Kd.own_blk (Kd.R_ne HO_5.out BK191.out (by decide))) | (show (Addr.add _ _).block ≠ _; rw [add_block]; exact Kd.own_blk (Kd.R_ne HO_5.out BK191.out (by decide))) | (dsimp only; exact Kd.own_blk (Kd.R_ne HO_5.out BK191.out (by decide)))) _).trans (hHeld.2.2.2.2.2.2.2.1)))))))))))))), ((cell_far (p := ⟨gb191, _, none⟩) (by first | exact Kd.own_blk (Kd.R_ne HO_5.out BK191.out (by decide)) | (rw [add_block]; exact Kd.own_blk (Kd.R_ne HO_5.out BK191.out (by decide))) | (show (Addr.add _ _).block ≠ _; rw [add_block]; exact Kd.own_blk (Kd.R_ne HO_5.out BK191.out (by decide))) | (dsimp only; exact Kd.own_blk (Kd.R_ne HO_5.out BK191.out (by decide)))) _).trans (((cell_far (p := ⟨gb191, _, none⟩) (by first | exact Kd.own_blk (Kd.R_ne HO_5.out BK191.out (by decide)) | (rw [add_block]; exact Kd.own_blk (Kd.R_ne HO_5.out BK191.out (by decide))) | (show (Addr.add _ _).block ≠ _; rw [add_block]; exact Kd.own_blk (Kd.R_ne HO_5.out BK191.out (by decide))) | (dsimp only; exact Kd.own_blk (Kd.R_ne HO_5.out BK191.out (by decide)))) _).trans (((cell_far (p := ⟨gb191, _, none⟩) (by first | exact Kd.own_blk (Kd.R_ne HO_5.out BK191.out (by decide)) | (rw [add_block]; exact Kd.own_blk (Kd.R_ne HO_5.out BK191.out (by decide))) | (show (Addr.add _ _).block ≠ _; rw [add_block]; exact Kd.own_blk (Kd.R_ne HO_5.out BK191.out (by decide))) | (dsimp only; exact Kd.own_blk (Kd.R_ne HO_5.out BK191.out (by decide)))) _).trans (((cell_far (p := ⟨gb191, _, none⟩) (by first | exact Kd.own_blk (Kd.R_ne HO_5.out BK191.out (by decide)) | (rw [add_block]; exact Kd.own_blk (Kd.R_ne HO_5.out BK191.out (by decide))) | (show (Addr.add _ _).block ≠ _; rw [add_block]; exact Kd.own_blk (Kd.R_ne HO_5.out BK191.out (by decide))) | (dsimp only; exact Kd.own_blk (Kd.R_ne HO_5.out BK191.out (by decide)))) _).trans (((cell_far (p := ⟨gb191, _, none⟩) (by first | exact Kd.own_blk (Kd.R_ne HO_5.out BK191.out (by decide)) | (rw [add_block]; exact Kd.own_blk (Kd.R_ne HO_5.out BK191.out (by decide))) | (show (Addr.add _ _).block ≠ _; rw [add_block]; exact Kd.own_blk (Kd.R_ne HO_5.out BK191.out (by decide))) | (dsimp only; exact Kd.own_blk (Kd.R_ne HO_5.out BK191.out (by decide)))) _).trans (((cell_far (p := ⟨gb191, _, none⟩) (by first | exact Kd.own_blk (Kd.R_ne HO_5.out BK191.out (by decide)) | (rw [add_block]; exact Kd.own_blk (Kd.R_ne HO_5.out BK191.out (by decide))) | (show (Addr.add _ _).block ≠ _; rw [add_block]; exact Kd.own_blk (Kd.R_ne HO_5.out BK191.out (by decide))) | (dsimp only; exact Kd.own_blk (Kd.R_ne HO_5.out BK191.out (by decide)))) _).trans (((cell_far (p := ⟨gb191, _, none⟩) (by first | exact Kd.own_blk (Kd.R_ne HO_5.out BK191.out (by decide)) | (rw [add_block]; exact Kd.own_blk (Kd.R_ne HO_5.out BK191.out (by decide))) | (show (Addr.add _ _).block ≠ _; rw [add_block]; exact Kd.own_blk (Kd.R_ne HO_5.out BK191.out (by decide))) | (dsimp only; exact Kd.own_blk (Kd.R_ne HO_5.out BK191.out (by decide)))) _).trans (hHeld.2.2.2.2.2.2.2.2))))))))))))))⟩ (fun hHeld => ?_)
                      clear hK K
                      refine pure_ (i := 16) (N := some 10) (v := ?_) (a' := ?_) #[true, true, true, true, true, true, true, true, true, true, true, true, true, true, true, true, true] rfl rfl (any_of HT_.out (by kernel_rfl)) (fun _ _ _ h => h) (Or.inl ⟨by rfl, ?_⟩) ?_ ?_
                      rotate_left
                      · intro w'
                        go_simp
                        with_reducible rfl
                      rotate_left
                      · simp only [Act.put, List.setIfInBounds_toArray, List.set_cons_zero, List.set_cons_succ, i64_w, i32_w]
                        rfl
                      refine done_ (done_of HT_.out (by kernel_rfl)) ?_
                      have hnb35 := NB191_163.out
                      have hnc35 := NB163_191.out
                      have hnb36 := NB191_178.out
                      have hnc36 := NB178_191.out
                      have hcz37_0 : w26.cell? ⟨gb191, 0, none⟩ = some (.int .i64 0) := (blk_cell BK191.out 0).trans rfl
                      have hcz37_1 : w26.cell? ⟨gb191, 1, none⟩ = some (.int .i64 0) := (blk_cell BK191.out 1).trans rfl
                      have hcz37_2 : w26.cell? ⟨gb191, 2, none⟩ = some (.int .i64 0) := (blk_cell BK191.out 2).trans rfl
                      have hcz37_3 : w26.cell? ⟨gb191, 3, none⟩ = some (.int .i64 0) := (blk_cell BK191.out 3).trans rfl
                      have hcz37_4 : w26.cell? ⟨gb191, 4, none⟩ = some (.int .i64 0) := (blk_cell BK191.out 4).trans rfl
                      have hcz37_5 : w26.cell? ⟨gb191, 5, none⟩ = some (.bool false) := (blk_cell BK191.out 5).trans rfl
                      have hcz37_6 : w26.cell? ⟨gb191, 6, none⟩ = some (.slice none 0 0) := (blk_cell BK191.out 6).trans rfl
                      have hfz37_0 := blk_frozen BK191.out 0
                      have hfz37_1 := blk_frozen BK191.out 1
                      have hfz37_2 := blk_frozen BK191.out 2
                      have hfz37_3 := blk_frozen BK191.out 3
                      have hfz37_4 := blk_frozen BK191.out 4
                      have hfz37_5 := blk_frozen BK191.out 5
                      have hfz37_6 := blk_frozen BK191.out 6
                      have hnb38 := NB178_163.out
                      have hnc38 := NB163_178.out
                      have hcz39_0 : w26.cell? ⟨gb178, 0, none⟩ = some (.int .i64 x179000_2) := (blk_cell BK178.out 0).trans rfl
                      have hcz39_1 : w26.cell? ⟨gb178, 1, none⟩ = some (.int .i64 x179001_2) := (blk_cell BK178.out 1).trans rfl
                      have hcz39_2 : w26.cell? ⟨gb178, 2, none⟩ = some (.int .i64 x179002_2) := (blk_cell BK178.out 2).trans rfl
                      have hcz39_3 : w26.cell? ⟨gb178, 3, none⟩ = some (.int .i64 x179003_2) := (blk_cell BK178.out 3).trans rfl
                      have hcz39_4 : w26.cell? ⟨gb178, 4, none⟩ = some (.int .i64 x179004_2) := (blk_cell BK178.out 4).trans rfl
                      have hcz39_5 : w26.cell? ⟨gb178, 5, none⟩ = some (.bool x179005_2) := (blk_cell BK178.out 5).trans rfl
                      have hcz39_6 : w26.cell? ⟨gb178, 6, none⟩ = some (.slice Ao22 x179006_2.length co22) := (blk_cell BK178.out 6).trans rfl
                      have hfz39_0 := blk_frozen BK178.out 0
                      have hfz39_1 := blk_frozen BK178.out 1
                      have hfz39_2 := blk_frozen BK178.out 2
                      have hfz39_3 := blk_frozen BK178.out 3
                      have hfz39_4 := blk_frozen BK178.out 4
                      have hfz39_5 := blk_frozen BK178.out 5
                      have hfz39_6 := blk_frozen BK178.out 6
                      try go_wp2
                      go_roundg k2
                      case measure => have := HK1.out; have := HK2.out; omega
                      case rel => exact ⟨(wrap64 (x8_2 + 2)), (x164000_2), (x164001_2), (x164002_2), (x164003_2), (x164004_2), (x164005_2), (t181), (t182), (t183), (t184), (t185), (t186), (t187), (.slice Ao33 t187.length co33), (by first | rfl | (simp; done) | (simp [*]; done)), H', ⟨by have := HK1.out; have := HK2.out; omega⟩, ⟨by (with_reducible repeat (first | apply Kd.R_alloc | apply Kd.R_drewN | apply Kd.R_drew)); exact Kd.R_mono (Kd.R_far (p := ⟨gb178, 6, none⟩) (Kd.R_far (p := ⟨gb178, 5, none⟩) (Kd.R_far (p := ⟨gb178, 4, none⟩) (Kd.R_far (p := ⟨gb178, 3, none⟩) (Kd.R_far (p := ⟨gb178, 2, none⟩) (Kd.R_far (p := ⟨gb178, 1, none⟩) (Kd.R_far (p := ⟨gb178, 0, none⟩) (Kd.R_far (p := ⟨gb191, 6, none⟩) (Kd.R_far (p := ⟨gb191, 5, none⟩) (Kd.R_far (p := ⟨gb191, 4, none⟩) (Kd.R_far (p := ⟨gb191, 3, none⟩) (Kd.R_far (p := ⟨gb191, 2, none⟩) (Kd.R_far (p := ⟨gb191, 1, none⟩) (Kd.R_far (p := ⟨gb191, 0, none⟩) (Kd.R_types (Kd.R_types HO_5.out BK191.out (by decide)) BK178.out (by decide)) (fun _ hk => hk.1.2) (.int .i64 t181)) (fun _ hk => hk.1.2) (.int .i64 t182)) (fun _ hk => hk.1.2) (.int .i64 t183)) (fun _ hk => hk.1.2) (.int .i64 t184)) (fun _ hk => hk.1.2) (.int .i64 t185)) (fun _ hk => hk.1.2) (.bool t186)) (fun _ hk => hk.1.2) (.slice Ao33 t187.length co33)) (fun _ hk => hk.2) (.int .i64 t181)) (fun _ hk => hk.2) (.int .i64 t182)) (fun _ hk => hk.2) (.int .i64 t183)) (fun _ hk => hk.2) (.int .i64 t184)) (fun _ hk => hk.2) (.int .i64 t185)) (fun _ hk => hk.2) (.bool t186)) (fun _ hk => hk.2) (.slice Ao33 t187.length co33)) (fun _ hk => trivial)⟩, ⟨by (with_reducible repeat (first | apply Kd.R_alloc | apply Kd.R_drewN | apply Kd.R_drew)); exact Kd.R_mono (Kd.R_far (p := ⟨gb178, 6, none⟩) (Kd.R_far (p := ⟨gb178, 5, none⟩) (Kd.R_far (p := ⟨gb178, 4, none⟩) (Kd.R_far (p := ⟨gb178, 3, none⟩) (Kd.R_far (p := ⟨gb178, 2, none⟩) (Kd.R_far (p := ⟨gb178, 1, none⟩) (Kd.R_far (p := ⟨gb178, 0, none⟩) (Kd.R_far (p := ⟨gb191, 6, none⟩) (Kd.R_far (p := ⟨gb191, 5, none⟩) (Kd.R_far (p := ⟨gb191, 4, none⟩) (Kd.R_far (p := ⟨gb191, 3, none⟩) (Kd.R_far (p := ⟨gb191, 2, none⟩) (Kd.R_far (p := ⟨gb191, 1, none⟩) (Kd.R_far (p := ⟨gb191, 0, none⟩) (Kd.R_types (Kd.R_types HO189.out BK191.out (by decide)) BK178.out (by decide)) (fun _ hk => hk.1.2) (.int .i64 t181)) (fun _ hk => hk.1.2) (.int .i64 t182)) (fun _ hk => hk.1.2) (.int .i64 t183)) (fun _ hk => hk.1.2) (.int .i64 t184)) (fun _ hk => hk.1.2) (.int .i64 t185)) (fun _ hk => hk.1.2) (.bool t186)) (fun _ hk => hk.1.2) (.slice Ao33 t187.length co33)) (fun _ hk => hk.2) (.int .i64 t181)) (fun _ hk => hk.2) (.int .i64 t182)) (fun _ hk => hk.2) (.int .i64 t183)) (fun _ hk => hk.2) (.int .i64 t184)) (fun _ hk => hk.2) (.int .i64 t185)) (fun _ hk => hk.2) (.bool t186)) (fun _ hk => hk.2) (.slice Ao33 t187.length co33)) (fun _ hk => trivial)⟩, ⟨by (with_reducible repeat (first | refine blk_drewN ?_ _ | refine blk_drew ?_ | refine blk_alloc ?_ _)); refine blk_far ?_ NB163_178.out _; (with_reducible repeat (first | refine blk_drewN ?_ _ | refine blk_drew ?_ | refine blk_alloc ?_ _)); refine blk_far ?_ NB163_178.out _; (with_reducible repeat (first | refine blk_drewN ?_ _ | refine blk_drew ?_ | refine blk_alloc ?_ _)); refine blk_far ?_ NB163_178.out _; (with_reducible repeat (first | refine blk_drewN ?_ _ | refine blk_drew ?_ | refine blk_alloc ?_ _)); refine blk_far ?_ NB163_178.out _; (with_reducible repeat (first | refine blk_drewN ?_ _ | refine blk_drew ?_ | refine blk_alloc ?_ _)); refine blk_far ?_ NB163_178.out _; (with_reducible repeat (first | refine blk_drewN ?_ _ | refine blk_drew ?_ | refine blk_alloc ?_ _)); refine blk_far ?_ NB163_178.out _; (with_reducible repeat (first | refine blk_drewN ?_ _ | refine blk_drew ?_ | refine blk_alloc ?_ _)); refine blk_far ?_ NB163_178.out _; (with_reducible repeat (first | refine blk_drewN ?_ _ | refine blk_drew ?_ | refine blk_alloc ?_ _)); refine blk_far ?_ NB163_191.out _; (with_reducible repeat (first | refine blk_drewN ?_ _ | refine blk_drew ?_ | refine blk_alloc ?_ _)); refine blk_far ?_ NB163_191.out _; (with_reducible repeat (first | refine blk_drewN ?_ _ | refine blk_drew ?_ | refine blk_alloc ?_ _)); refine blk_far ?_ NB163_191.out _; (with_reducible repeat (first | refine blk_drewN ?_ _ | refine blk_drew ?_ | refine blk_alloc ?_ _)); refine blk_far ?_ NB163_191.out _; (with_reducible repeat (first | refine blk_drewN ?_ _ | refine blk_drew ?_ | refine blk_alloc ?_ _)); refine blk_far ?_ NB163_191.out _; (with_reducible repeat (first | refine blk_drewN ?_ _ | refine blk_drew ?_ | refine blk_alloc ?_ _)); refine blk_far ?_ NB163_191.out _; (with_reducible repeat (first | refine blk_drewN ?_ _ | refine blk_drew ?_ | refine blk_alloc ?_ _)); refine blk_far ?_ NB163_191.out _; (with_reducible repeat (first | refine blk_drewN ?_ _ | refine blk_drew ?_ | refine blk_alloc ?_ _)); exact BK163.out⟩, ⟨by (with_reducible repeat (first | refine blk_drewN ?_ _ | refine blk_drew ?_ | refine blk_alloc ?_ _)); refine blk_put (cs := #[.int .i64 t181, .int .i64 t182, .int .i64 t183, .int .i64 t184, .int .i64 t185, .bool t186, .slice Ao22 x179006_2.length co22]) ?_ 6 _ rfl; (with_reducible repeat (first | refine blk_drewN ?_ _ | refine blk_drew ?_ | refine blk_alloc ?_ _)); refine blk_put (cs := #[.int .i64 t181, .int .i64 t182, .int .i64 t183, .int .i64 t184, .int .i64 t185, .bool x179005_2, .slice Ao22 x179006_2.length co22]) ?_ 5 _ rfl; (with_reducible repeat (first | refine blk_drewN ?_ _ | refine blk_drew ?_ | refine blk_alloc ?_ _)); refine blk_put (cs := #[.int .i64 t181, .int .i64 t182, .int .i64 t183, .int .i64 t184, .int .i64 x179004_2, .bool x179005_2, .slice Ao22 x179006_2.length co22]) ?_ 4 _ rfl; (with_reducible repeat (first | refine blk_drewN ?_ _ | refine blk_drew ?_ | refine blk_alloc ?_ _)); refine blk_put (cs := #[.int .i64 t181, .int .i64 t182, .int .i64 t183, .int .i64 x179003_2, .int .i64 x179004_2, .bool x179005_2, .slice Ao22 x179006_2.length co22]) ?_ 3 _ rfl; (with_reducible repeat (first | refine blk_drewN ?_ _ | refine blk_drew ?_ | refine blk_alloc ?_ _)); refine blk_put (cs := #[.int .i64 t181, .int .i64 t182, .int .i64 x179002_2, .int .i64 x179003_2, .int .i64 x179004_2, .bool x179005_2, .slice Ao22 x179006_2.length co22]) ?_ 2 _ rfl; (with_reducible repeat (first | refine blk_drewN ?_ _ | refine blk_drew ?_ | refine blk_alloc ?_ _)); refine blk_put (cs := #[.int .i64 t181, .int .i64 x179001_2, .int .i64 x179002_2, .int .i64 x179003_2, .int .i64 x179004_2, .bool x179005_2, .slice Ao22 x179006_2.length co22]) ?_ 1 _ rfl; (with_reducible repeat (first | refine blk_drewN ?_ _ | refine blk_drew ?_ | refine blk_alloc ?_ _)); refine blk_put (cs := #[.int .i64 x179000_2, .int .i64 x179001_2, .int .i64 x179002_2, .int .i64 x179003_2, .int .i64 x179004_2, .bool x179005_2, .slice Ao22 x179006_2.length co22]) ?_ 0 _ rfl; (with_reducible repeat (first | refine blk_drewN ?_ _ | refine blk_drew ?_ | refine blk_alloc ?_ _)); refine blk_far ?_ NB178_191.out _; (with_reducible repeat (first | refine blk_drewN ?_ _ | refine blk_drew ?_ | refine blk_alloc ?_ _)); refine blk_far ?_ NB178_191.out _; (with_reducible repeat (first | refine blk_drewN ?_ _ | refine blk_drew ?_ | refine blk_alloc ?_ _)); refine blk_far ?_ NB178_191.out _; (with_reducible repeat (first | refine blk_drewN ?_ _ | refine blk_drew ?_ | refine blk_alloc ?_ _)); refine blk_far ?_ NB178_191.out _; (with_reducible repeat (first | refine blk_drewN ?_ _ | refine blk_drew ?_ | refine blk_alloc ?_ _)); refine blk_far ?_ NB178_191.out _; (with_reducible repeat (first | refine blk_drewN ?_ _ | refine blk_drew ?_ | refine blk_alloc ?_ _)); refine blk_far ?_ NB178_191.out _; (with_reducible repeat (first | refine blk_drewN ?_ _ | refine blk_drew ?_ | refine blk_alloc ?_ _)); refine blk_far ?_ NB178_191.out _; (with_reducible repeat (first | refine blk_drewN ?_ _ | refine blk_drew ?_ | refine blk_alloc ?_ _)); exact BK178.out⟩, ⟨by repeat (first | (with_reducible first | exact HB.out | apply below_alloc | apply pw_below_drewN | apply below_drew1 | refine below_set ?_ GE163.out | refine below_set ?_ GE178.out | refine below_set ?_ GE191.out) | exact HB.out)⟩⟩
                    · rw [if_neg c20] at H
                      have c20b0 : (t190 == 0) = false := beq_eq_false_iff_ne.mpr c20
                      have c20b1 : (t190 != 0) = true := bne_iff_ne.mpr c20
                      simp only [Option.some.injEq, Prod.mk.injEq] at H
                      obtain ⟨rfl, rfl, rfl, rfl, rfl, rfl, rfl, rfl, rfl⟩ := H
                      obtain ⟨Ao40, co40, eo40⟩ := Kd.R_slice HO_5.out
                      subst eo40
                      obtain ⟨Ao41, co41, eo41⟩ := Kd.R_slice HO_179006.out
                      subst eo41
                      try go_wp2
                      have n0_ := Aside0.mk (Kd.R_drew HO_5.out)
                      have n1_ := Aside0.mk (Kd.R_drew HO_179006.out)
                      have n2_ := Aside0.mk (blk_drew BK163.out)
                      have n3_ := Aside0.mk (blk_drew BK178.out)
                      have n4_ := Aside0.mk (below_drew1 HB.out)
                      clear HO_5
                      clear HO_179006
                      clear BK163
                      clear BK178
                      clear HB
                      have HO_5 := n0_
                      have HO_179006 := n1_
                      have BK163 := n2_
                      have BK178 := n3_
                      have HB := n4_
                      clear n0_ n1_ n2_ n3_ n4_
                      have p179 : 0 ≤ (x8_2 : Int) := of_decide_eq_true (by first | (with_reducible assumption) | assumption)
                      have q179 : x8_2 < (x5_1.length : Int) := of_decide_eq_true (by first | (with_reducible assumption) | assumption)
                      obtain ⟨ad179, e179, hx179_0⟩ := Kd.at_int (Kd.R_reads' HO_5.out).2.2 x8_2 p179 q179
                      cases e179
                      replace p179 := eq_true p179
                      replace q179 := eq_true q179
                      have p180 : 0 ≤ ((ji17) : Int) := of_decide_eq_true (by first | (with_reducible assumption) | assumption)
                      have q180 : (ji17) < (x5_1.length : Int) := of_decide_eq_true (by first | (with_reducible assumption) | assumption)
                      obtain ⟨ad180, e180, hx180_0⟩ := Kd.at_int (Kd.R_reads' HO_5.out).2.2 (ji17) p180 q180
                      obtain rfl : ad179 = ad180 := (by injection e180)
                      replace p180 := eq_true p180
                      replace q180 := eq_true q180
                      refine start_ (n := 17) (S := fun w' => w'.cell? ⟨gb178, 0, none⟩ = some (.int .i64 x179000_2) ∧ w'.cell? ⟨gb178, 1, none⟩ = some (.int .i64 x179001_2) ∧ w'.cell? ⟨gb178, 2, none⟩ = some (.int .i64 x179002_2) ∧ w'.cell? ⟨gb178, 3, none⟩ = some (.int .i64 x179003_2) ∧ w'.cell? ⟨gb178, 4, none⟩ = some (.int .i64 x179004_2) ∧ w'.cell? ⟨gb178, 5, none⟩ = some (.bool x179005_2) ∧ w'.cell? ⟨gb178, 6, none⟩ = some (.slice Ao41 x179006_2.length co41) ∧ w'.cell? (ad179.add (x8_2).toNat) = some (.int .i32 (rd x5_1 x8_2)) ∧ w'.cell? (ad179.add ((ji17)).toNat) = some (.int .i32 (rd x5_1 (ji17)))) (ds := []) #[false, false, false, false, false, false, false, false, false, false, false, false, false, false, false, false, false] (by kernel_rfl) rfl rfl ⟨(blk_cell BK178.out 0).trans rfl, (blk_cell BK178.out 1).trans rfl, (blk_cell BK178.out 2).trans rfl, (blk_cell BK178.out 3).trans rfl, (blk_cell BK178.out 4).trans rfl, (blk_cell BK178.out 5).trans rfl, (blk_cell BK178.out 6).trans rfl, hx179_0, hx180_0⟩ (fun hHeld => ?_); refine with_tabW pascalineref32_Draw.tab11 pascalineref32_Draw.bits11 (fun HT_ HW_ => ?_)
                      generalize wr.drew = w42 at HO_5 HO_179006 BK163 BK178 HB hx179_0 hx180_0 hHeld ⊢
                      refine pure_ (i := 1) (N := some 41) (v := ?_) (a' := ?_) #[false, true, false, false, false, false, false, false, false, false, false, false, false, false, false, false, false] rfl rfl (any_of HT_.out (by kernel_rfl)) (fun _ _ _ h => h) (Or.inl ⟨by rfl, ?_⟩) ?_ ?_
                      rotate_left
                      · intro w'
                        go_simp
                        with_reducible rfl
                      rotate_left
                      · simp only [Act.put, List.setIfInBounds_toArray, List.set_cons_zero, List.set_cons_succ, i64_w, i32_w]
                        rfl
                      refine pure_ (i := 2) (N := some 42) (v := ?_) (a' := ?_) #[false, true, true, false, false, false, false, false, false, false, false, false, false, false, false, false, false] rfl rfl (any_of HT_.out (by kernel_rfl)) (fun _ _ _ h => h) (Or.inl ⟨by rfl, ?_⟩) ?_ ?_
                      rotate_left
                      · intro w'
                        go_simp
                        with_reducible rfl
                      rotate_left
                      · simp only [Act.put, List.setIfInBounds_toArray, List.set_cons_zero, List.set_cons_succ, i64_w, i32_w]
                        rfl
                      refine pure_ (i := 3) (N := some 43) (v := ?_) (a' := ?_) #[false, true, true, true, false, false, false, false, false, false, false, false, false, false, false, false, false] rfl rfl (any_of HT_.out (by kernel_rfl)) (fun _ _ _ h => h) (Or.inl ⟨by rfl, ?_⟩) ?_ ?_
                      rotate_left
                      · intro w'
                        go_simp
                        with_reducible rfl
                      rotate_left
                      · simp only [Act.put, List.setIfInBounds_toArray, List.set_cons_zero, List.set_cons_succ, i64_w, i32_w]
                        rfl
                      refine pure_ (i := 5) (N := some 45) (v := ?_) (a' := ?_) #[false, true, true, true, false, true, false, false, false, false, false, false, false, false, false, false, false] rfl rfl (any_of HT_.out (by kernel_rfl)) (fun _ _ _ h => h) (Or.inl ⟨by rfl, ?_⟩) ?_ ?_
                      rotate_left
                      · intro w'
                        go_simp
                        with_reducible rfl
                      rotate_left
                      · simp only [Act.put, List.setIfInBounds_toArray, List.set_cons_zero, List.set_cons_succ, i64_w, i32_w]
                        rfl
                      refine pure_ (i := 6) (N := some 46) (v := ?_) (a' := ?_) #[false, true, true, true, false, true, true, false, false, false, false, false, false, false, false, false, false] rfl rfl (any_of HT_.out (by kernel_rfl)) (fun _ _ _ h => h) (Or.inl ⟨by rfl, ?_⟩) ?_ ?_
                      rotate_left
                      · intro w'
                        go_simp
                        with_reducible rfl
                      rotate_left
                      · simp only [Act.put, List.setIfInBounds_toArray, List.set_cons_zero, List.set_cons_succ, i64_w, i32_w]
                        rfl
                      refine pure_ (i := 7) (N := some 47) (v := ?_) (a' := ?_) #[false, true, true, true, false, true, true, true, false, false, false, false, false, false, false, false, false] rfl rfl (any_of HT_.out (by kernel_rfl)) (fun _ _ _ h => h) (Or.inl ⟨by rfl, ?_⟩) ?_ ?_
                      rotate_left
                      · intro w'
                        go_simp
                        with_reducible rfl
                      rotate_left
                      · simp only [Act.put, List.setIfInBounds_toArray, List.set_cons_zero, List.set_cons_succ, i64_w, i32_w]
                        rfl
                      refine pure_ (i := 8) (N := some 48) (v := ?_) (a' := ?_) #[false, true, true, true, false, true, true, true, true, false, false, false, false, false, false, false, false] rfl rfl (any_of HT_.out (by kernel_rfl)) (fun _ _ _ h => h) (Or.inl ⟨by rfl, ?_⟩) ?_ ?_
                      rotate_left
                      · intro w'
                        go_simp
                        with_reducible rfl
                      rotate_left
                      · simp only [Act.put, List.setIfInBounds_toArray, List.set_cons_zero, List.set_cons_succ, i64_w, i32_w]
                        rfl
                      refine take_ (i := 0) (N := some 40) (v := ?_) (a' := ?_) #[true, true, true, true, false, true, true, true, true, false, false, false, false, false, false, false, false] rfl rfl (take_ofW HT_.out HW_.out (by kernel_rfl)) (fun _ _ _ h => h) (Or.inl ⟨by rfl, ?_⟩) hHeld ?_ ?_
                      rotate_left
                      · rintro w' ⟨s0, s1, s2, s3, s4, s5, s6, s7, s8⟩
                        go_simp
                        with_reducible rfl
                      rotate_left
                      · simp only [Act.put, List.setIfInBounds_toArray, List.set_cons_zero, List.set_cons_succ, i64_w, i32_w]
                        rfl
                      refine take_ (i := 4) (N := some 44) (v := ?_) (a' := ?_) #[true, true, true, true, true, true, true, true, true, false, false, false, false, false, false, false, false] rfl rfl (take_ofW HT_.out HW_.out (by kernel_rfl)) (fun _ _ _ h => h) (Or.inl ⟨by rfl, ?_⟩) hHeld ?_ ?_
                      rotate_left
                      · rintro w' ⟨s0, s1, s2, s3, s4, s5, s6, s7, s8⟩
                        go_simp
                        with_reducible rfl
                      rotate_left
                      · simp only [Act.put, List.setIfInBounds_toArray, List.set_cons_zero, List.set_cons_succ, i64_w, i32_w]
                        rfl
                      refine take_ (i := 9) (N := some 49) (v := ?_) (a' := ?_) #[true, true, true, true, true, true, true, true, true, true, false, false, false, false, false, false, false] rfl rfl (take_ofW HT_.out HW_.out (by kernel_rfl)) (fun _ _ _ h => h) (Or.inl ⟨by rfl, ?_⟩) hHeld ?_ ?_
                      rotate_left
                      · rintro w' ⟨s0, s1, s2, s3, s4, s5, s6, s7, s8⟩
                        go_simp
                        with_reducible rfl
                      rotate_left
                      · simp only [Act.put, List.setIfInBounds_toArray, List.set_cons_zero, List.set_cons_succ, i64_w, i32_w]
                        rfl
                      refine join_ (σ := Value × Nat) 2 #[true, true, true, true, true, true, true, true, true, true, true, true, true, true, true, false, false] (fun s_ => [(50, .tuple #[.agg #[.int .i64 t181, .int .i64 t182, .int .i64 t183, .int .i64 t184, .int .i64 t185, .bool t186, s_.1], .int .i64 t190]), (9, .pointer (some ⟨s_.2, 0, none⟩)), (39, .tuple #[.agg #[.int .i64 t181, .int .i64 t182, .int .i64 t183, .int .i64 t184, .int .i64 t185, .bool t186, s_.1], .int .i64 t190]), (51, .agg #[.int .i64 t181, .int .i64 t182, .int .i64 t183, .int .i64 t184, .int .i64 t185, .bool t186, s_.1]), (52, .int .i64 t190)]) (fun s_ w' => (w'.cell? ⟨gb178, 0, none⟩ = some (.int .i64 x179000_2) ∧ w'.cell? ⟨gb178, 1, none⟩ = some (.int .i64 x179001_2) ∧ w'.cell? ⟨gb178, 2, none⟩ = some (.int .i64 x179002_2) ∧ w'.cell? ⟨gb178, 3, none⟩ = some (.int .i64 x179003_2) ∧ w'.cell? ⟨gb178, 4, none⟩ = some (.int .i64 x179004_2) ∧ w'.cell? ⟨gb178, 5, none⟩ = some (.bool x179005_2) ∧ w'.cell? ⟨gb178, 6, none⟩ = some (.slice Ao41 x179006_2.length co41) ∧ w'.cell? (ad179.add (x8_2).toNat) = some (.int .i32 (rd x5_1 x8_2)) ∧ w'.cell? (ad179.add ((ji17)).toNat) = some (.int .i32 (rd x5_1 (ji17)))) ∧ (Kd.R k70 70 w' w.heap.size (fun _ => True) s_.1 t187) ∧ (Kd.R (Kd.int .i32) 21 w' w.heap.size (fun _ => True) (.slice (some ad179) x5_1.length co40) x5_1) ∧ (w'.heap[gb163]? = some (.cells #[.int .i64 x164000_2, .int .i64 x164001_2, .int .i64 x164002_2, .int .i64 x164003_2, .int .i64 x164004_2, .bool x164005_2, .slice none 0 0] 28 (0, 0))) ∧ (w'.heap[gb178]? = some (.cells #[.int .i64 x179000_2, .int .i64 x179001_2, .int .i64 x179002_2, .int .i64 x179003_2, .int .i64 x179004_2, .bool x179005_2, .slice Ao41 x179006_2.length co41] 28 (0, 0))) ∧ (w'.heap[s_.2]? = some (.cells #[.int .i64 0, .int .i64 0, .int .i64 0, .int .i64 0, .int .i64 0, .bool false, .slice none 0 0] 28 (0, 0))) ∧ (w.heap.size ≤ s_.2) ∧ (w.heap.size ≤ s_.2) ∧ (gb163 ≠ s_.2) ∧ (s_.2 ≠ gb163) ∧ (gb178 ≠ s_.2) ∧ (s_.2 ≠ gb178) ∧ (Below w.heap.size w w')) ?_ ?_
                      rotate_left
                      · intro hCont
                        refine two_ (i := 10) (j := 14) (Ni := some 50) (Nj := some 9) #[true, true, true, true, true, true, true, true, true, true, true, false, false, false, false, false, false] #[true, true, true, true, true, true, true, true, true, true, false, false, false, false, true, false, false] rfl rfl rfl rfl (two_of HT_.out (by kernel_rfl)) (by decide) (by decide) (fun K hK => ?_) (fun K hK => ?_)
                        · skip
                          refine goes_ Try.func11 (by kernel_rfl) rfl #[.agg #[.int .i64 x179000_2, .int .i64 x179001_2, .int .i64 x179002_2, .int .i64 x179003_2, .int .i64 x179004_2, .bool x179005_2, .slice Ao41 x179006_2.length co41], .int .i32 (rd x5_1 x8_2), .int .i32 (rd x5_1 (ji17))] (by rfl) rfl rfl (by (try simp only [List.map_toArray, List.map_cons, List.map_nil]); first | done | (simp only [hji17]; rfl) | rfl | (simp only [List.length_drop, List.length_take]; rfl)) ?_
                          with_reducible refine (pascalineref32_Do.calls k2 x179000_2 x179001_2 x179002_2 x179003_2 x179004_2 x179005_2 (fun k_ => some k_ = (.slice Ao41 x179006_2.length co41 : Value).ownBlock) (.slice Ao41 x179006_2.length co41) x179006_2 (rd x5_1 x8_2) (rd x5_1 (ji17)) t181 t182 t183 t184 t185 t186 t187 t190 w _ ?side1 ?side2 A19.out).mono ?_
                          (case side1 => repeat (first | (with_reducible first | exact HB.out | apply below_alloc | apply pw_below_drewN | apply below_drew1 | refine below_set ?_ GE163.out | refine below_set ?_ GE178.out) | exact HB.out))
                          (case side2 => exact Kd.R_tight rfl HO_179006.out)
                          rintro e w43 ⟨v188, rfl, ho0, hb, hkp⟩
                          have HS7_ := Go.Proofs.YtbfepcajbbeheaaW.PrintWords.cell_kept (hHeld.2.2.2.2.2.2.2.1) hkp (by first | (rw [add_block]; exact (fun hs_ => ((((Kd.R_apart' HO_5.out (Kd.R_typed HO_179006.out) (by decide))).1 _ rfl).2) hs_)) | (show ¬ _; simp only [add_block]; exact (fun hs_ => ((((Kd.R_apart' HO_5.out (Kd.R_typed HO_179006.out) (by decide))).1 _ rfl).2) hs_)) | exact (fun hs_ => ((((Kd.R_apart' HO_5.out (Kd.R_typed HO_179006.out) (by decide))).1 _ rfl).2) hs_))
                          have HS8_ := Go.Proofs.YtbfepcajbbeheaaW.PrintWords.cell_kept (hHeld.2.2.2.2.2.2.2.2) hkp (by first | (rw [add_block]; exact (fun hs_ => ((((Kd.R_apart' HO_5.out (Kd.R_typed HO_179006.out) (by decide))).1 _ rfl).2) hs_)) | (show ¬ _; simp only [add_block]; exact (fun hs_ => ((((Kd.R_apart' HO_5.out (Kd.R_typed HO_179006.out) (by decide))).1 _ rfl).2) hs_)) | exact (fun hs_ => ((((Kd.R_apart' HO_5.out (Kd.R_typed HO_179006.out) (by decide))).1 _ rfl).2) hs_))
                          refine ⟨_, rfl, ?_⟩
                          have n0_ := Aside0.mk (Kd.R_mono (ok' := fun k_ => True) (Kd.R_keptB ((Kd.R_apart' HO_5.out (Kd.R_typed HO_179006.out) (by decide))) hkp (fun k_ hk_ hs_ => (hk_.2) hs_)) (fun k_ hk_ => trivial))
                          have n1_ := Aside0.mk (blk_kept (by (with_reducible repeat (first | refine blk_drewN ?_ _ | refine blk_drew ?_ | refine blk_alloc ?_ _)); exact BK163.out) hkp (fun hs_ => (fun e_ => (Kd.R_ne HO_179006.out BK163.out (by decide)) e_) hs_))
                          have n2_ := Aside0.mk (blk_kept (by (with_reducible repeat (first | refine blk_drewN ?_ _ | refine blk_drew ?_ | refine blk_alloc ?_ _)); exact BK178.out) hkp (fun hs_ => (fun e_ => (Kd.R_ne HO_179006.out BK178.out (by decide)) e_) hs_))
                          have n3_ := Aside0.mk (Kd.R_mono (ok' := fun k_ => True) ho0 (fun k_ hk_ => trivial))
                          have n4_ := Aside0.mk (hb)
                          clear HO_5
                          clear BK163
                          clear BK178
                          clear HB
                          clear HO_179006
                          have HO_5 := n0_
                          have BK163 := n1_
                          have BK178 := n2_
                          have HO189 := n3_
                          have HB := n4_
                          clear n0_ n1_ n2_ n3_ n4_
                          (try clear hb)
                          (try clear hkp)
                          (try clear ho0)
                          refine hK.out _ _ ⟨(blk_cell BK178.out 0).trans rfl, (blk_cell BK178.out 1).trans rfl, (blk_cell BK178.out 2).trans rfl, (blk_cell BK178.out 3).trans rfl, (blk_cell BK178.out 4).trans rfl, (blk_cell BK178.out 5).trans rfl, (blk_cell BK178.out 6).trans rfl, HS7_, HS8_⟩ (fun hHeld => ?_)
                          clear hK K
                          refine norm_ (a' := ?_) ?_ ?_
                          rotate_left
                          · show Act.put _ (some 50) _ = _
                            simp only [Act.put, List.setIfInBounds_toArray, List.set_cons_zero, List.set_cons_succ, i64_w, i32_w]
                            rfl
                          refine pure_ (i := 11) (N := some 39) (v := ?_) (a' := ?_) #[true, true, true, true, true, true, true, true, true, true, true, true, false, false, false, false, false] rfl rfl (any_of HT_.out (by kernel_rfl)) (fun _ _ _ h => h) (Or.inl ⟨by rfl, ?_⟩) ?_ ?_
                          rotate_left
                          · intro w'
                            go_simp
                            with_reducible rfl
                          rotate_left
                          · simp only [Act.put, List.setIfInBounds_toArray, List.set_cons_zero, List.set_cons_succ, i64_w, i32_w]
                            rfl
                          refine pure_ (i := 12) (N := some 51) (v := ?_) (a' := ?_) #[true, true, true, true, true, true, true, true, true, true, true, true, true, false, false, false, false] rfl rfl (any_of HT_.out (by kernel_rfl)) (fun _ _ _ h => h) (Or.inl ⟨by rfl, ?_⟩) ?_ ?_
                          rotate_left
                          · intro w'
                            go_simp
                            with_reducible rfl
                          rotate_left
                          · simp only [Act.put, List.setIfInBounds_toArray, List.set_cons_zero, List.set_cons_succ, i64_w, i32_w]
                            rfl
                          refine pure_ (i := 13) (N := some 52) (v := ?_) (a' := ?_) #[true, true, true, true, true, true, true, true, true, true, true, true, true, true, false, false, false] rfl rfl (any_of HT_.out (by kernel_rfl)) (fun _ _ _ h => h) (Or.inl ⟨by rfl, ?_⟩) ?_ ?_
                          rotate_left
                          · intro w'
                            go_simp
                            with_reducible rfl
                          rotate_left
                          · simp only [Act.put, List.setIfInBounds_toArray, List.set_cons_zero, List.set_cons_succ, i64_w, i32_w]
                            rfl
                          refine one_ (i := 14) (N := some 9) #[true, true, true, true, true, true, true, true, true, true, true, true, true, true, true, false, false] rfl rfl (one_of HT_.out (by kernel_rfl)) (by decide) (fun K hK => ?_)
                          refine box_step ?hg (N := 9) ?hd (cs := #[.int .i64 0, .int .i64 0, .int .i64 0, .int .i64 0, .int .i64 0, .bool false, .slice none 0 0]) (t := 28) ?hr ?_; (case hd => rfl); (case hg => rfl); (case hr => first | (go_simp; done) | (go_simp; rfl))
                          intro gb191 hg w44 hbox hb
                          have HS7_ := (hb.cell (World.block_lt_of_cell? _ _ (hHeld.2.2.2.2.2.2.2.1))).trans (hHeld.2.2.2.2.2.2.2.1)
                          have HS8_ := (hb.cell (World.block_lt_of_cell? _ _ (hHeld.2.2.2.2.2.2.2.2))).trans (hHeld.2.2.2.2.2.2.2.2)
                          have n0_ := Aside0.mk (Kd.R_below (by (with_reducible repeat (first | apply Kd.R_alloc | apply Kd.R_drewN | apply Kd.R_drew)); exact HO_5.out) hb)
                          have n1_ := Aside0.mk (Kd.R_below (by (with_reducible repeat (first | apply Kd.R_alloc | apply Kd.R_drewN | apply Kd.R_drew)); exact HO189.out) hb)
                          have n2_ := Aside0.mk (blk_below (g := gb163) (o := .cells #[.int .i64 x164000_2, .int .i64 x164001_2, .int .i64 x164002_2, .int .i64 x164003_2, .int .i64 x164004_2, .bool x164005_2, .slice none 0 0] 28 (0, 0)) (by (with_reducible repeat (first | refine blk_drewN ?_ _ | refine blk_drew ?_ | refine blk_alloc ?_ _)); exact BK163.out) hb)
                          have n3_ := Aside0.mk (blk_below (g := gb178) (o := .cells #[.int .i64 x179000_2, .int .i64 x179001_2, .int .i64 x179002_2, .int .i64 x179003_2, .int .i64 x179004_2, .bool x179005_2, .slice Ao41 x179006_2.length co41] 28 (0, 0)) (by (with_reducible repeat (first | refine blk_drewN ?_ _ | refine blk_drew ?_ | refine blk_alloc ?_ _)); exact BK178.out) hb)
                          have n4_ := Aside0.mk (below_step (by repeat (first | (with_reducible first | exact HB.out | apply below_alloc | apply pw_below_drewN | apply below_drew1 | refine below_set ?_ GE163.out | refine below_set ?_ GE178.out) | exact HB.out)) hb)
                          have n5_ := Aside0.mk (hbox)
                          have n6_ := Aside0.mk ((by rw [hg]; exact (below_size (by repeat (first | (with_reducible first | exact HB.out | apply below_alloc | apply pw_below_drewN | apply below_drew1 | refine below_set ?_ GE163.out | refine below_set ?_ GE178.out) | exact HB.out))) : w.heap.size ≤ gb191))
                          have n7_ := Aside0.mk ((by rw [hg]; exact (below_size (by repeat (first | (with_reducible first | exact HB.out | apply below_alloc | apply pw_below_drewN | apply below_drew1 | refine below_set ?_ GE163.out | refine below_set ?_ GE178.out) | exact HB.out))) : w.heap.size ≤ gb191))
                          have n8_ := Aside0.mk ((by rw [hg]; exact Nat.ne_of_lt (blk_lt (g := gb163) (o := .cells #[.int .i64 x164000_2, .int .i64 x164001_2, .int .i64 x164002_2, .int .i64 x164003_2, .int .i64 x164004_2, .bool x164005_2, .slice none 0 0] 28 (0, 0)) (by (with_reducible repeat (first | refine blk_drewN ?_ _ | refine blk_drew ?_ | refine blk_alloc ?_ _)); exact BK163.out)) : gb163 ≠ gb191))
                          have n9_ := Aside0.mk ((by rw [hg]; exact Nat.ne_of_gt (blk_lt (g := gb163) (o := .cells #[.int .i64 x164000_2, .int .i64 x164001_2, .int .i64 x164002_2, .int .i64 x164003_2, .int .i64 x164004_2, .bool x164005_2, .slice none 0 0] 28 (0, 0)) (by (with_reducible repeat (first | refine blk_drewN ?_ _ | refine blk_drew ?_ | refine blk_alloc ?_ _)); exact BK163.out)) : gb191 ≠ gb163))
                          have n10_ := Aside0.mk ((by rw [hg]; exact Nat.ne_of_lt (blk_lt (g := gb178) (o := .cells #[.int .i64 x179000_2, .int .i64 x179001_2, .int .i64 x179002_2, .int .i64 x179003_2, .int .i64 x179004_2, .bool x179005_2, .slice Ao41 x179006_2.length co41] 28 (0, 0)) (by (with_reducible repeat (first | refine blk_drewN ?_ _ | refine blk_drew ?_ | refine blk_alloc ?_ _)); exact BK178.out)) : gb178 ≠ gb191))
                          have n11_ := Aside0.mk ((by rw [hg]; exact Nat.ne_of_gt (blk_lt (g := gb178) (o := .cells #[.int .i64 x179000_2, .int .i64 x179001_2, .int .i64 x179002_2, .int .i64 x179003_2, .int .i64 x179004_2, .bool x179005_2, .slice Ao41 x179006_2.length co41] 28 (0, 0)) (by (with_reducible repeat (first | refine blk_drewN ?_ _ | refine blk_drew ?_ | refine blk_alloc ?_ _)); exact BK178.out)) : gb191 ≠ gb178))
                          clear HO_5
                          clear HO189
                          clear BK163
                          clear BK178
                          clear HB
                          have HO_5 := n0_
                          have HO189 := n1_
                          have BK163 := n2_
                          have BK178 := n3_
                          have HB := n4_
                          have BK191 := n5_
                          have GW191 := n6_
                          have GE191 := n7_
                          have NB163_191 := n8_
                          have NB191_163 := n9_
                          have NB178_191 := n10_
                          have NB191_178 := n11_
                          clear n0_ n1_ n2_ n3_ n4_ n5_ n6_ n7_ n8_ n9_ n10_ n11_
                          clear hb hbox hg
                          refine hK.out _ _ ⟨(blk_cell BK178.out 0).trans rfl, (blk_cell BK178.out 1).trans rfl, (blk_cell BK178.out 2).trans rfl, (blk_cell BK178.out 3).trans rfl, (blk_cell BK178.out 4).trans rfl, (blk_cell BK178.out 5).trans rfl, (blk_cell BK178.out 6).trans rfl, HS7_, HS8_⟩ (fun hHeld => ?_)
                          clear hK K
                          refine norm_ (a' := ?_) ?_ ?_
                          rotate_left
                          · show Act.put _ (some 9) _ = _
                            simp only [Act.put, List.setIfInBounds_toArray, List.set_cons_zero, List.set_cons_succ, i64_w, i32_w]
                            rfl
                          exact norm_ (by simp only [putAll, Act.put, List.setIfInBounds_toArray, List.set_cons_zero, List.set_cons_succ]) (hCont (v188, gb191) _ ⟨hHeld, (by (with_reducible repeat (first | apply Kd.R_alloc | apply Kd.R_drewN | apply Kd.R_drew)); exact HO189.out), (by (with_reducible repeat (first | apply Kd.R_alloc | apply Kd.R_drewN | apply Kd.R_drew)); exact HO_5.out), (by (with_reducible repeat (first | refine blk_drewN ?_ _ | refine blk_drew ?_ | refine blk_alloc ?_ _)); exact BK163.out), (by (with_reducible repeat (first | refine blk_drewN ?_ _ | refine blk_drew ?_ | refine blk_alloc ?_ _)); exact BK178.out), (by (with_reducible repeat (first | refine blk_drewN ?_ _ | refine blk_drew ?_ | refine blk_alloc ?_ _)); exact BK191.out), GW191.out, GE191.out, NB163_191.out, NB191_163.out, NB178_191.out, NB191_178.out, (by repeat (first | (with_reducible first | exact HB.out | apply below_alloc | apply pw_below_drewN | apply below_drew1 | refine below_set ?_ GE163.out | refine below_set ?_ GE178.out | refine below_set ?_ GE191.out) | exact HB.out))⟩)
                        · skip
                          refine box_step ?hg (N := 9) ?hd (cs := #[.int .i64 0, .int .i64 0, .int .i64 0, .int .i64 0, .int .i64 0, .bool false, .slice none 0 0]) (t := 28) ?hr ?_; (case hd => rfl); (case hg => rfl); (case hr => first | (go_simp; done) | (go_simp; rfl))
                          intro gb191 hg w43 hbox hb
                          have HS7_ := (hb.cell (World.block_lt_of_cell? _ _ (hHeld.2.2.2.2.2.2.2.1))).trans (hHeld.2.2.2.2.2.2.2.1)
                          have HS8_ := (hb.cell (World.block_lt_of_cell? _ _ (hHeld.2.2.2.2.2.2.2.2))).trans (hHeld.2.2.2.2.2.2.2.2)
                          have n0_ := Aside0.mk (Kd.R_below (by (with_reducible repeat (first | apply Kd.R_alloc | apply Kd.R_drewN | apply Kd.R_drew)); exact HO_5.out) hb)
                          have n1_ := Aside0.mk (Kd.R_below (by (with_reducible repeat (first | apply Kd.R_alloc | apply Kd.R_drewN | apply Kd.R_drew)); exact HO_179006.out) hb)
                          have n2_ := Aside0.mk (blk_below (g := gb163) (o := .cells #[.int .i64 x164000_2, .int .i64 x164001_2, .int .i64 x164002_2, .int .i64 x164003_2, .int .i64 x164004_2, .bool x164005_2, .slice none 0 0] 28 (0, 0)) (by (with_reducible repeat (first | refine blk_drewN ?_ _ | refine blk_drew ?_ | refine blk_alloc ?_ _)); exact BK163.out) hb)
                          have n3_ := Aside0.mk (blk_below (g := gb178) (o := .cells #[.int .i64 x179000_2, .int .i64 x179001_2, .int .i64 x179002_2, .int .i64 x179003_2, .int .i64 x179004_2, .bool x179005_2, .slice Ao41 x179006_2.length co41] 28 (0, 0)) (by (with_reducible repeat (first | refine blk_drewN ?_ _ | refine blk_drew ?_ | refine blk_alloc ?_ _)); exact BK178.out) hb)
                          have n4_ := Aside0.mk (below_step (by repeat (first | (with_reducible first | exact HB.out | apply below_alloc | apply pw_below_drewN | apply below_drew1 | refine below_set ?_ GE163.out | refine below_set ?_ GE178.out) | exact HB.out)) hb)
                          have n5_ := Aside0.mk (hbox)
                          have n6_ := Aside0.mk ((by rw [hg]; exact (below_size (by repeat (first | (with_reducible first | exact HB.out | apply below_alloc | apply pw_below_drewN | apply below_drew1 | refine below_set ?_ GE163.out | refine below_set ?_ GE178.out) | exact HB.out))) : w.heap.size ≤ gb191))
                          have n7_ := Aside0.mk ((by rw [hg]; exact (below_size (by repeat (first | (with_reducible first | exact HB.out | apply below_alloc | apply pw_below_drewN | apply below_drew1 | refine below_set ?_ GE163.out | refine below_set ?_ GE178.out) | exact HB.out))) : w.heap.size ≤ gb191))
                          have n8_ := Aside0.mk ((by rw [hg]; exact Nat.ne_of_lt (blk_lt (g := gb163) (o := .cells #[.int .i64 x164000_2, .int .i64 x164001_2, .int .i64 x164002_2, .int .i64 x164003_2, .int .i64 x164004_2, .bool x164005_2, .slice none 0 0] 28 (0, 0)) (by (with_reducible repeat (first | refine blk_drewN ?_ _ | refine blk_drew ?_ | refine blk_alloc ?_ _)); exact BK163.out)) : gb163 ≠ gb191))
                          have n9_ := Aside0.mk ((by rw [hg]; exact Nat.ne_of_gt (blk_lt (g := gb163) (o := .cells #[.int .i64 x164000_2, .int .i64 x164001_2, .int .i64 x164002_2, .int .i64 x164003_2, .int .i64 x164004_2, .bool x164005_2, .slice none 0 0] 28 (0, 0)) (by (with_reducible repeat (first | refine blk_drewN ?_ _ | refine blk_drew ?_ | refine blk_alloc ?_ _)); exact BK163.out)) : gb191 ≠ gb163))
                          have n10_ := Aside0.mk ((by rw [hg]; exact Nat.ne_of_lt (blk_lt (g := gb178) (o := .cells #[.int .i64 x179000_2, .int .i64 x179001_2, .int .i64 x179002_2, .int .i64 x179003_2, .int .i64 x179004_2, .bool x179005_2, .slice Ao41 x179006_2.length co41] 28 (0, 0)) (by (with_reducible repeat (first | refine blk_drewN ?_ _ | refine blk_drew ?_ | refine blk_alloc ?_ _)); exact BK178.out)) : gb178 ≠ gb191))
                          have n11_ := Aside0.mk ((by rw [hg]; exact Nat.ne_of_gt (blk_lt (g := gb178) (o := .cells #[.int .i64 x179000_2, .int .i64 x179001_2, .int .i64 x179002_2, .int .i64 x179003_2, .int .i64 x179004_2, .bool x179005_2, .slice Ao41 x179006_2.length co41] 28 (0, 0)) (by (with_reducible repeat (first | refine blk_drewN ?_ _ | refine blk_drew ?_ | refine blk_alloc ?_ _)); exact BK178.out)) : gb191 ≠ gb178))
                          clear HO_5
                          clear HO_179006
                          clear BK163
                          clear BK178
                          clear HB
                          have HO_5 := n0_
                          have HO_179006 := n1_
                          have BK163 := n2_
                          have BK178 := n3_
                          have HB := n4_
                          have BK191 := n5_
                          have GW191 := n6_
                          have GE191 := n7_
                          have NB163_191 := n8_
                          have NB191_163 := n9_
                          have NB178_191 := n10_
                          have NB191_178 := n11_
                          clear n0_ n1_ n2_ n3_ n4_ n5_ n6_ n7_ n8_ n9_ n10_ n11_
                          clear hb hbox hg
                          refine hK.out _ _ ⟨(blk_cell BK178.out 0).trans rfl, (blk_cell BK178.out 1).trans rfl, (blk_cell BK178.out 2).trans rfl, (blk_cell BK178.out 3).trans rfl, (blk_cell BK178.out 4).trans rfl, (blk_cell BK178.out 5).trans rfl, (blk_cell BK178.out 6).trans rfl, HS7_, HS8_⟩ (fun hHeld => ?_)
                          clear hK K
                          refine norm_ (a' := ?_) ?_ ?_
                          rotate_left
                          · show Act.put _ (some 9) _ = _
                            simp only [Act.put, List.setIfInBounds_toArray, List.set_cons_zero, List.set_cons_succ, i64_w, i32_w]
                            rfl
                          refine one_ (i := 10) (N := some 50) #[true, true, true, true, true, true, true, true, true, true, true, false, false, false, true, false, false] rfl rfl (one_of HT_.out (by kernel_rfl)) (by decide) (fun K hK => ?_)
                          refine goes_ Try.func11 (by kernel_rfl) rfl #[.agg #[.int .i64 x179000_2, .int .i64 x179001_2, .int .i64 x179002_2, .int .i64 x179003_2, .int .i64 x179004_2, .bool x179005_2, .slice Ao41 x179006_2.length co41], .int .i32 (rd x5_1 x8_2), .int .i32 (rd x5_1 (ji17))] (by rfl) rfl rfl (by (try simp only [List.map_toArray, List.map_cons, List.map_nil]); first | done | (simp only [hji17]; rfl) | rfl | (simp only [List.length_drop, List.length_take]; rfl)) ?_
                          with_reducible refine (pascalineref32_Do.calls k2 x179000_2 x179001_2 x179002_2 x179003_2 x179004_2 x179005_2 (fun k_ => some k_ = (.slice Ao41 x179006_2.length co41 : Value).ownBlock) (.slice Ao41 x179006_2.length co41) x179006_2 (rd x5_1 x8_2) (rd x5_1 (ji17)) t181 t182 t183 t184 t185 t186 t187 t190 w _ ?side1 ?side2 A19.out).mono ?_
                          (case side1 => repeat (first | (with_reducible first | exact HB.out | apply below_alloc | apply pw_below_drewN | apply below_drew1 | refine below_set ?_ GE163.out | refine below_set ?_ GE178.out | refine below_set ?_ GE191.out) | exact HB.out))
                          (case side2 => exact Kd.R_tight rfl HO_179006.out)
                          rintro e w44 ⟨v188, rfl, ho0, hb, hkp⟩
                          have HS7_ := Go.Proofs.YtbfepcajbbeheaaW.PrintWords.cell_kept (hHeld.2.2.2.2.2.2.2.1) hkp (by first | (rw [add_block]; exact (fun hs_ => ((((Kd.R_apart' HO_5.out (Kd.R_typed HO_179006.out) (by decide))).1 _ rfl).2) hs_)) | (show ¬ _; simp only [add_block]; exact (fun hs_ => ((((Kd.R_apart' HO_5.out (Kd.R_typed HO_179006.out) (by decide))).1 _ rfl).2) hs_)) | exact (fun hs_ => ((((Kd.R_apart' HO_5.out (Kd.R_typed HO_179006.out) (by decide))).1 _ rfl).2) hs_))
                          have HS8_ := Go.Proofs.YtbfepcajbbeheaaW.PrintWords.cell_kept (hHeld.2.2.2.2.2.2.2.2) hkp (by first | (rw [add_block]; exact (fun hs_ => ((((Kd.R_apart' HO_5.out (Kd.R_typed HO_179006.out) (by decide))).1 _ rfl).2) hs_)) | (show ¬ _; simp only [add_block]; exact (fun hs_ => ((((Kd.R_apart' HO_5.out (Kd.R_typed HO_179006.out) (by decide))).1 _ rfl).2) hs_)) | exact (fun hs_ => ((((Kd.R_apart' HO_5.out (Kd.R_typed HO_179006.out) (by decide))).1 _ rfl).2) hs_))
                          refine ⟨_, rfl, ?_⟩
                          have n0_ := Aside0.mk (Kd.R_mono (ok' := fun k_ => True) (Kd.R_keptB ((Kd.R_apart' HO_5.out (Kd.R_typed HO_179006.out) (by decide))) hkp (fun k_ hk_ hs_ => (hk_.2) hs_)) (fun k_ hk_ => trivial))
                          have n1_ := Aside0.mk (blk_kept (by (with_reducible repeat (first | refine blk_drewN ?_ _ | refine blk_drew ?_ | refine blk_alloc ?_ _)); exact BK163.out) hkp (fun hs_ => (fun e_ => (Kd.R_ne HO_179006.out BK163.out (by decide)) e_) hs_))
                          have n2_ := Aside0.mk (blk_kept (by (with_reducible repeat (first | refine blk_drewN ?_ _ | refine blk_drew ?_ | refine blk_alloc ?_ _)); exact BK178.out) hkp (fun hs_ => (fun e_ => (Kd.R_ne HO_179006.out BK178.out (by decide)) e_) hs_))
                          have n3_ := Aside0.mk (blk_kept (by (with_reducible repeat (first | refine blk_drewN ?_ _ | refine blk_drew ?_ | refine blk_alloc ?_ _)); exact BK191.out) hkp (fun hs_ => (fun e_ => (Kd.R_ne HO_179006.out BK191.out (by decide)) e_) hs_))
                          have n4_ := Aside0.mk (Kd.R_mono (ok' := fun k_ => True) ho0 (fun k_ hk_ => trivial))
                          have n5_ := Aside0.mk (hb)
                          clear HO_5
                          clear BK163
                          clear BK178
                          clear BK191
                          clear HB
                          clear HO_179006
                          have HO_5 := n0_
                          have BK163 := n1_
                          have BK178 := n2_
                          have BK191 := n3_
                          have HO189 := n4_
                          have HB := n5_
                          clear n0_ n1_ n2_ n3_ n4_ n5_
                          (try clear hb)
                          (try clear hkp)
                          (try clear ho0)
                          refine hK.out _ _ ⟨(blk_cell BK178.out 0).trans rfl, (blk_cell BK178.out 1).trans rfl, (blk_cell BK178.out 2).trans rfl, (blk_cell BK178.out 3).trans rfl, (blk_cell BK178.out 4).trans rfl, (blk_cell BK178.out 5).trans rfl, (blk_cell BK178.out 6).trans rfl, HS7_, HS8_⟩ (fun hHeld => ?_)
                          clear hK K
                          refine norm_ (a' := ?_) ?_ ?_
                          rotate_left
                          · show Act.put _ (some 50) _ = _
                            simp only [Act.put, List.setIfInBounds_toArray, List.set_cons_zero, List.set_cons_succ, i64_w, i32_w]
                            rfl
                          refine pure_ (i := 11) (N := some 39) (v := ?_) (a' := ?_) #[true, true, true, true, true, true, true, true, true, true, true, true, false, false, true, false, false] rfl rfl (any_of HT_.out (by kernel_rfl)) (fun _ _ _ h => h) (Or.inl ⟨by rfl, ?_⟩) ?_ ?_
                          rotate_left
                          · intro w'
                            go_simp
                            with_reducible rfl
                          rotate_left
                          · simp only [Act.put, List.setIfInBounds_toArray, List.set_cons_zero, List.set_cons_succ, i64_w, i32_w]
                            rfl
                          refine pure_ (i := 12) (N := some 51) (v := ?_) (a' := ?_) #[true, true, true, true, true, true, true, true, true, true, true, true, true, false, true, false, false] rfl rfl (any_of HT_.out (by kernel_rfl)) (fun _ _ _ h => h) (Or.inl ⟨by rfl, ?_⟩) ?_ ?_
                          rotate_left
                          · intro w'
                            go_simp
                            with_reducible rfl
                          rotate_left
                          · simp only [Act.put, List.setIfInBounds_toArray, List.set_cons_zero, List.set_cons_succ, i64_w, i32_w]
                            rfl
                          refine pure_ (i := 13) (N := some 52) (v := ?_) (a' := ?_) #[true, true, true, true, true, true, true, true, true, true, true, true, true, true, true, false, false] rfl rfl (any_of HT_.out (by kernel_rfl)) (fun _ _ _ h => h) (Or.inl ⟨by rfl, ?_⟩) ?_ ?_
                          rotate_left
                          · intro w'
                            go_simp
                            with_reducible rfl
                          rotate_left
                          · simp only [Act.put, List.setIfInBounds_toArray, List.set_cons_zero, List.set_cons_succ, i64_w, i32_w]
                            rfl
                          exact norm_ (by simp only [putAll, Act.put, List.setIfInBounds_toArray, List.set_cons_zero, List.set_cons_succ]) (hCont (v188, gb191) _ ⟨hHeld, (by (with_reducible repeat (first | apply Kd.R_alloc | apply Kd.R_drewN | apply Kd.R_drew)); exact HO189.out), (by (with_reducible repeat (first | apply Kd.R_alloc | apply Kd.R_drewN | apply Kd.R_drew)); exact HO_5.out), (by (with_reducible repeat (first | refine blk_drewN ?_ _ | refine blk_drew ?_ | refine blk_alloc ?_ _)); exact BK163.out), (by (with_reducible repeat (first | refine blk_drewN ?_ _ | refine blk_drew ?_ | refine blk_alloc ?_ _)); exact BK178.out), (by (with_reducible repeat (first | refine blk_drewN ?_ _ | refine blk_drew ?_ | refine blk_alloc ?_ _)); exact BK191.out), GW191.out, GE191.out, NB163_191.out, NB191_163.out, NB178_191.out, NB191_178.out, (by repeat (first | (with_reducible first | exact HB.out | apply below_alloc | apply pw_below_drewN | apply below_drew1 | refine below_set ?_ GE163.out | refine below_set ?_ GE178.out | refine below_set ?_ GE191.out) | exact HB.out))⟩)
                      rintro ⟨v188, gb191⟩ w45 ⟨hS_, h0_, h1_, h2_, h3_, h4_, h5_, h6_, h7_, h8_, h9_, h10_, h11_⟩
                      have n0_ : Aside0 (Kd.R k70 70 w45 w.heap.size (fun _ => True) v188 t187) := ⟨h0_⟩
                      have n1_ : Aside0 (Kd.R (Kd.int .i32) 21 w45 w.heap.size (fun _ => True) (.slice (some ad179) x5_1.length co40) x5_1) := ⟨h1_⟩
                      have n2_ : Aside0 (w45.heap[gb163]? = some (.cells #[.int .i64 x164000_2, .int .i64 x164001_2, .int .i64 x164002_2, .int .i64 x164003_2, .int .i64 x164004_2, .bool x164005_2, .slice none 0 0] 28 (0, 0))) := ⟨h2_⟩
                      have n3_ : Aside0 (w45.heap[gb178]? = some (.cells #[.int .i64 x179000_2, .int .i64 x179001_2, .int .i64 x179002_2, .int .i64 x179003_2, .int .i64 x179004_2, .bool x179005_2, .slice Ao41 x179006_2.length co41] 28 (0, 0))) := ⟨h3_⟩
                      have n4_ : Aside0 (w45.heap[gb191]? = some (.cells #[.int .i64 0, .int .i64 0, .int .i64 0, .int .i64 0, .int .i64 0, .bool false, .slice none 0 0] 28 (0, 0))) := ⟨h4_⟩
                      have n5_ : Aside0 (w.heap.size ≤ gb191) := ⟨h5_⟩
                      have n6_ : Aside0 (w.heap.size ≤ gb191) := ⟨h6_⟩
                      have n7_ : Aside0 (gb163 ≠ gb191) := ⟨h7_⟩
                      have n8_ : Aside0 (gb191 ≠ gb163) := ⟨h8_⟩
                      have n9_ : Aside0 (gb178 ≠ gb191) := ⟨h9_⟩
                      have n10_ : Aside0 (gb191 ≠ gb178) := ⟨h10_⟩
                      have n11_ : Aside0 (Below w.heap.size w w45) := ⟨h11_⟩
                      clear HO_5
                      clear HO_179006
                      clear BK163
                      clear BK178
                      clear HB
                      clear h0_ h1_ h2_ h3_ h4_ h5_ h6_ h7_ h8_ h9_ h10_ h11_
                      have HO189 := n0_
                      have HO_5 := n1_
                      have BK163 := n2_
                      have BK178 := n3_
                      have BK191 := n4_
                      have GW191 := n5_
                      have GE191 := n6_
                      have NB163_191 := n7_
                      have NB191_163 := n8_
                      have NB178_191 := n9_
                      have NB191_178 := n10_
                      have HB := n11_
                      clear n0_ n1_ n2_ n3_ n4_ n5_ n6_ n7_ n8_ n9_ n10_ n11_
                      have hHeld : w45.cell? ⟨gb178, 0, none⟩ = some (.int .i64 x179000_2) ∧ w45.cell? ⟨gb178, 1, none⟩ = some (.int .i64 x179001_2) ∧ w45.cell? ⟨gb178, 2, none⟩ = some (.int .i64 x179002_2) ∧ w45.cell? ⟨gb178, 3, none⟩ = some (.int .i64 x179003_2) ∧ w45.cell? ⟨gb178, 4, none⟩ = some (.int .i64 x179004_2) ∧ w45.cell? ⟨gb178, 5, none⟩ = some (.bool x179005_2) ∧ w45.cell? ⟨gb178, 6, none⟩ = some (.slice Ao41 x179006_2.length co41) ∧ w45.cell? (ad179.add (x8_2).toNat) = some (.int .i32 (rd x5_1 x8_2)) ∧ w45.cell? (ad179.add ((ji17)).toNat) = some (.int .i32 (rd x5_1 (ji17))) := hS_
                      obtain ⟨Ao52, co52, eo52⟩ := Kd.R_slice HO189.out
                      (first | subst eo52 | (injection eo52 with f1_ f2_ f3_; have f4_ := f1_.symm; have f5_ := f3_.symm; clear f1_ f2_ f3_; subst f4_; subst f5_))
                      refine norm_ (a' := ?_) ?_ ?_
                      rotate_left
                      · simp only [putAll, Act.put, List.setIfInBounds_toArray, List.set_cons_zero, List.set_cons_succ]
                        rfl
                      refine one_ (i := 15) (N := none) #[true, true, true, true, true, true, true, true, true, true, true, true, true, true, true, true, false] rfl rfl (one_of HT_.out (by kernel_rfl)) (by decide) (fun K hK => ?_)
                      have hs46 : w45.cell? ⟨gb191, 0, none⟩ = some (.int .i64 0) := (blk_cell BK191.out 0).trans rfl
                      have hfs46 := blk_frozen BK191.out 0
                      have hns46_0 := NB163_191.out
                      have hns46_1 := NB178_191.out
                      have hms46_0 := NB191_163.out
                      have hms46_1 := NB191_178.out
                      have hs47 : w45.cell? ⟨gb191, 1, none⟩ = some (.int .i64 0) := (blk_cell BK191.out 1).trans rfl
                      have hfs47 := blk_frozen BK191.out 1
                      have hns47_0 := NB163_191.out
                      have hns47_1 := NB178_191.out
                      have hms47_0 := NB191_163.out
                      have hms47_1 := NB191_178.out
                      have hs48 : w45.cell? ⟨gb191, 2, none⟩ = some (.int .i64 0) := (blk_cell BK191.out 2).trans rfl
                      have hfs48 := blk_frozen BK191.out 2
                      have hns48_0 := NB163_191.out
                      have hns48_1 := NB178_191.out
                      have hms48_0 := NB191_163.out
                      have hms48_1 := NB191_178.out
                      have hs49 : w45.cell? ⟨gb191, 3, none⟩ = some (.int .i64 0) := (blk_cell BK191.out 3).trans rfl
                      have hfs49 := blk_frozen BK191.out 3
                      have hns49_0 := NB163_191.out
                      have hns49_1 := NB178_191.out
                      have hms49_0 := NB191_163.out
                      have hms49_1 := NB191_178.out
                      have hs50 : w45.cell? ⟨gb191, 4, none⟩ = some (.int .i64 0) := (blk_cell BK191.out 4).trans rfl
                      have hfs50 := blk_frozen BK191.out 4
                      have hns50_0 := NB163_191.out
                      have hns50_1 := NB178_191.out
                      have hms50_0 := NB191_163.out
                      have hms50_1 := NB191_178.out
                      have hs51 : w45.cell? ⟨gb191, 5, none⟩ = some (.bool false) := (blk_cell BK191.out 5).trans rfl
                      have hfs51 := blk_frozen BK191.out 5
                      have hns51_0 := NB163_191.out
                      have hns51_1 := NB178_191.out
                      have hms51_0 := NB191_163.out
                      have hms51_1 := NB191_178.out
                      have hs53 : w45.cell? ⟨gb191, 6, none⟩ = some (.slice none 0 0) := (blk_cell BK191.out 6).trans rfl
                      have hfs53 := blk_frozen BK191.out 6
                      have hns53_0 := NB163_191.out
                      have hns53_1 := NB178_191.out
                      have hms53_0 := NB191_163.out
                      have hms53_1 := NB191_178.out
                      refine skip_ (w1 := ?_) (by rfl) rfl ?_ ?_
                      rotate_left
                      · go_simp
                        rfl
                      refine hK.out _ _ ⟨((cell_far (p := ⟨gb191, _, none⟩) NB178_191.out _).trans (((cell_far (p := ⟨gb191, _, none⟩) NB178_191.out _).trans (((cell_far (p := ⟨gb191, _, none⟩) NB178_191.out _).trans (((cell_far (p := ⟨gb191, _, none⟩) NB178_191.out _).trans (((cell_far (p := ⟨gb191, _, none⟩) NB178_191.out _).trans (((cell_far (p := ⟨gb191, _, none⟩) NB178_191.out _).trans (((cell_far (p := ⟨gb191, _, none⟩) NB178_191.out _).trans (hHeld.1)))))))))))))), ((cell_far (p := ⟨gb191, _, none⟩) NB178_191.out _).trans (((cell_far (p := ⟨gb191, _, none⟩) NB178_191.out _).trans (((cell_far (p := ⟨gb191, _, none⟩) NB178_191.out _).trans (((cell_far (p := ⟨gb191, _, none⟩) NB178_191.out _).trans (((cell_far (p := ⟨gb191, _, none⟩) NB178_191.out _).trans (((cell_far (p := ⟨gb191, _, none⟩) NB178_191.out _).trans (((cell_far (p := ⟨gb191, _, none⟩) NB178_191.out _).trans (hHeld.2.1)))))))))))))), ((cell_far (p := ⟨gb191, _, none⟩) NB178_191.out _).trans (((cell_far (p := ⟨gb191, _, none⟩) NB178_191.out _).trans (((cell_far (p := ⟨gb191, _, none⟩) NB178_191.out _).trans (((cell_far (p := ⟨gb191, _, none⟩) NB178_191.out _).trans (((cell_far (p := ⟨gb191, _, none⟩) NB178_191.out _).trans (((cell_far (p := ⟨gb191, _, none⟩) NB178_191.out _).trans (((cell_far (p := ⟨gb191, _, none⟩) NB178_191.out _).trans (hHeld.2.2.1)))))))))))))), ((cell_far (p := ⟨gb191, _, none⟩) NB178_191.out _).trans (((cell_far (p := ⟨gb191, _, none⟩) NB178_191.out _).trans (((cell_far (p := ⟨gb191, _, none⟩) NB178_191.out _).trans (((cell_far (p := ⟨gb191, _, none⟩) NB178_191.out _).trans (((cell_far (p := ⟨gb191, _, none⟩) NB178_191.out _).trans (((cell_far (p := ⟨gb191, _, none⟩) NB178_191.out _).trans (((cell_far (p := ⟨gb191, _, none⟩) NB178_191.out _).trans (hHeld.2.2.2.1)))))))))))))), ((cell_far (p := ⟨gb191, _, none⟩) NB178_191.out _).trans (((cell_far (p := ⟨gb191, _, none⟩) NB178_191.out _).trans (((cell_far (p := ⟨gb191, _, none⟩) NB178_191.out _).trans (((cell_far (p := ⟨gb191, _, none⟩) NB178_191.out _).trans (((cell_far (p := ⟨gb191, _, none⟩) NB178_191.out _).trans (((cell_far (p := ⟨gb191, _, none⟩) NB178_191.out _).trans (((cell_far (p := ⟨gb191, _, none⟩) NB178_191.out _).trans (hHeld.2.2.2.2.1)))))))))))))), ((cell_far (p := ⟨gb191, _, none⟩) NB178_191.out _).trans (((cell_far (p := ⟨gb191, _, none⟩) NB178_191.out _).trans (((cell_far (p := ⟨gb191, _, none⟩) NB178_191.out _).trans (((cell_far (p := ⟨gb191, _, none⟩) NB178_191.out _).trans (((cell_far (p := ⟨gb191, _, none⟩) NB178_191.out _).trans (((cell_far (p := ⟨gb191, _, none⟩) NB178_191.out _).trans (((cell_far (p := ⟨gb191, _, none⟩) NB178_191.out _).trans (hHeld.2.2.2.2.2.1)))))))))))))), ((cell_far (p := ⟨gb191, _, none⟩) NB178_191.out _).trans (((cell_far (p := ⟨gb191, _, none⟩) NB178_191.out _).trans (((cell_far (p := ⟨gb191, _, none⟩) NB178_191.out _).trans (((cell_far (p := ⟨gb191, _, none⟩) NB178_191.out _).trans (((cell_far (p := ⟨gb191, _, none⟩) NB178_191.out _).trans (((cell_far (p := ⟨gb191, _, none⟩) NB178_191.out _).trans (((cell_far (p := ⟨gb191, _, none⟩) NB178_191.out _).trans (hHeld.2.2.2.2.2.2.1)))))))))))))), ((cell_far (p := ⟨gb191, _, none⟩) (by first | exact Kd.own_blk (Kd.R_ne HO_5.out BK191.out (by decide)) | (rw [add_block]; exact Kd.own_blk (Kd.R_ne HO_5.out BK191.out (by decide))) | (show (Addr.add _ _).block ≠ _; rw [add_block]; exact Kd.own_blk (Kd.R_ne HO_5.out BK191.out (by decide))) | (dsimp only; exact Kd.own_blk (Kd.R_ne HO_5.out BK191.out (by decide)))) _).trans (((cell_far (p := ⟨gb191, _, none⟩) (by first | exact Kd.own_blk (Kd.R_ne HO_5.out BK191.out (by decide)) | (rw [add_block]; exact Kd.own_blk (Kd.R_ne HO_5.out BK191.out (by decide))) | (show (Addr.add _ _).block ≠ _; rw [add_block]; exact Kd.own_blk (Kd.R_ne HO_5.out BK191.out (by decide))) | (dsimp only; exact Kd.own_blk (Kd.R_ne HO_5.out BK191.out (by decide)))) _).trans (((cell_far (p := ⟨gb191, _, none⟩) (by first | exact Kd.own_blk (Kd.R_ne HO_5.out BK191.out (by decide)) | (rw [add_block]; exact Kd.own_blk (Kd.R_ne HO_5.out BK191.out (by decide))) | (show (Addr.add _ _).block ≠ _; rw [add_block]; exact Kd.own_blk (Kd.R_ne HO_5.out BK191.out (by decide))) | (dsimp only; exact Kd.own_blk (Kd.R_ne HO_5.out BK191.out (by decide)))) _).trans (((cell_far (p := ⟨gb191, _, none⟩) (by first | exact Kd.own_blk (Kd.R_ne HO_5.out BK191.out (by decide)) | (rw [add_block]; exact Kd.own_blk (Kd.R_ne HO_5.out BK191.out (by decide))) | (show (Addr.add _ _).block ≠ _; rw [add_block]; exact Kd.own_blk (Kd.R_ne HO_5.out BK191.out (by decide))) | (dsimp only; exact Kd.own_blk (Kd.R_ne HO_5.out BK191.out (by decide)))) _).trans (((cell_far (p := ⟨gb191, _, none⟩) (by first | exact Kd.own_blk (Kd.R_ne HO_5.out BK191.out (by decide)) | (rw [add_block]; exact Kd.own_blk (Kd.R_ne HO_5.out BK191.out (by decide))) | (show (Addr.add _ _).block ≠ _; rw [add_block]; exact Kd.own_blk (Kd.R_ne HO_5.out BK191.out (by decide))) | (dsimp only; exact Kd.own_blk (Kd.R_ne HO_5.out BK191.out (by decide)))) _).trans (((cell_far (p := ⟨gb191, _, none⟩) (by first | exact Kd.own_blk (Kd.R_ne HO_5.out BK191.out (by decide)) | (rw [add_block]; exact Kd.own_blk (Kd.R_ne HO_5.out BK191.out (by decide))) | (show (Addr.add _ _).block ≠ _; rw [add_block]; exact Kd.own_blk (Kd.R_ne HO_5.out BK191.out (by decide))) | (dsimp only; exact Kd.own_blk (Kd.R_ne HO_5.out BK191.out (by decide)))) _).trans (((cell_far (p := ⟨gb191, _, none⟩) (by first | exact Kd.own_blk (Kd.R_ne HO_5.out BK191.out (by decide)) | (rw [add_block]; exact Kd.own_blk (Kd.R_ne HO_5.out BK191.out (by decide))) | (show (Addr.add _ _).block ≠ _; rw [add_block]; exact Kd.own_blk (Kd.R_ne HO_5.out BK191.out (by decide))) | (dsimp only; exact Kd.own_blk (Kd.R_ne HO_5.out BK191.out (by decide)))) _).trans (hHeld.2.2.2.2.2.2.2.1)))))))))))))), ((cell_far (p := ⟨gb191, _, none⟩) (by first | exact Kd.own_blk (Kd.R_ne HO_5.out BK191.out (by decide)) | (rw [add_block]; exact Kd.own_blk (Kd.R_ne HO_5.out BK191.out (by decide))) | (show (Addr.add _ _).block ≠ _; rw [add_block]; exact Kd.own_blk (Kd.R_ne HO_5.out BK191.out (by decide))) | (dsimp only; exact Kd.own_blk (Kd.R_ne HO_5.out BK191.out (by decide)))) _).trans (((cell_far (p := ⟨gb191, _, none⟩) (by first | exact Kd.own_blk (Kd.R_ne HO_5.out BK191.out (by decide)) | (rw [add_block]; exact Kd.own_blk (Kd.R_ne HO_5.out BK191.out (by decide))) | (show (Addr.add _ _).block ≠ _; rw [add_block]; exact Kd.own_blk (Kd.R_ne HO_5.out BK191.out (by decide))) | (dsimp only; exact Kd.own_blk (Kd.R_ne HO_5.out BK191.out (by decide)))) _).trans (((cell_far (p := ⟨gb191, _, none⟩) (by first | exact Kd.own_blk (Kd.R_ne HO_5.out BK191.out (by decide)) | (rw [add_block]; exact Kd.own_blk (Kd.R_ne HO_5.out BK191.out (by decide))) | (show (Addr.add _ _).block ≠ _; rw [add_block]; exact Kd.own_blk (Kd.R_ne HO_5.out BK191.out (by decide))) | (dsimp only; exact Kd.own_blk (Kd.R_ne HO_5.out BK191.out (by decide)))) _).trans (((cell_far (p := ⟨gb191, _, none⟩) (by first | exact Kd.own_blk (Kd.R_ne HO_5.out BK191.out (by decide)) | (rw [add_block]; exact Kd.own_blk (Kd.R_ne HO_5.out BK191.out (by decide))) | (show (Addr.add _ _).block ≠ _; rw [add_block]; exact Kd.own_blk (Kd.R_ne HO_5.out BK191.out (by decide))) | (dsimp only; exact Kd.own_blk (Kd.R_ne HO_5.out BK191.out (by decide)))) _).trans (((cell_far (p := ⟨gb191, _, none⟩) (by first | exact Kd.own_blk (Kd.R_ne HO_5.out BK191.out (by decide)) | (rw [add_block]; exact Kd.own_blk (Kd.R_ne HO_5.out BK191.out (by decide))) | (show (Addr.add _ _).block ≠ _; rw [add_block]; exact Kd.own_blk (Kd.R_ne HO_5.out BK191.out (by decide))) | (dsimp only; exact Kd.own_blk (Kd.R_ne HO_5.out BK191.out (by decide)))) _).trans (((cell_far (p := ⟨gb191, _, none⟩) (by first | exact Kd.own_blk (Kd.R_ne HO_5.out BK191.out (by decide)) | (rw [add_block]; exact Kd.own_blk (Kd.R_ne HO_5.out BK191.out (by decide))) | (show (Addr.add _ _).block ≠ _; rw [add_block]; exact Kd.own_blk (Kd.R_ne HO_5.out BK191.out (by decide))) | (dsimp only; exact Kd.own_blk (Kd.R_ne HO_5.out BK191.out (by decide)))) _).trans (((cell_far (p := ⟨gb191, _, none⟩) (by first | exact Kd.own_blk (Kd.R_ne HO_5.out BK191.out (by decide)) | (rw [add_block]; exact Kd.own_blk (Kd.R_ne HO_5.out BK191.out (by decide))) | (show (Addr.add _ _).block ≠ _; rw [add_block]; exact Kd.own_blk (Kd.R_ne HO_5.out BK191.out (by decide))) | (dsimp only; exact Kd.own_blk (Kd.R_ne HO_5.out BK191.out (by decide)))) _).trans (hHeld.2.2.2.2.2.2.2.2))))))))))))))⟩ (fun hHeld => ?_)
                      clear hK K
                      refine pure_ (i := 16) (N := some 10) (v := ?_) (a' := ?_) #[true, true, true, true, true, true, true, true, true, true, true, true, true, true, true, true, true] rfl rfl (any_of HT_.out (by kernel_rfl)) (fun _ _ _ h => h) (Or.inl ⟨by rfl, ?_⟩) ?_ ?_
                      rotate_left
                      · intro w'
                        go_simp
                        with_reducible rfl
                      rotate_left
                      · simp only [Act.put, List.setIfInBounds_toArray, List.set_cons_zero, List.set_cons_succ, i64_w, i32_w]
                        rfl
                      refine done_ (done_of HT_.out (by kernel_rfl)) ?_
                      have hnb54 := NB191_163.out
                      have hnc54 := NB163_191.out
                      have hnb55 := NB191_178.out
                      have hnc55 := NB178_191.out
                      have hcz56_0 : w45.cell? ⟨gb191, 0, none⟩ = some (.int .i64 0) := (blk_cell BK191.out 0).trans rfl
                      have hcz56_1 : w45.cell? ⟨gb191, 1, none⟩ = some (.int .i64 0) := (blk_cell BK191.out 1).trans rfl
                      have hcz56_2 : w45.cell? ⟨gb191, 2, none⟩ = some (.int .i64 0) := (blk_cell BK191.out 2).trans rfl
                      have hcz56_3 : w45.cell? ⟨gb191, 3, none⟩ = some (.int .i64 0) := (blk_cell BK191.out 3).trans rfl
                      have hcz56_4 : w45.cell? ⟨gb191, 4, none⟩ = some (.int .i64 0) := (blk_cell BK191.out 4).trans rfl
                      have hcz56_5 : w45.cell? ⟨gb191, 5, none⟩ = some (.bool false) := (blk_cell BK191.out 5).trans rfl
                      have hcz56_6 : w45.cell? ⟨gb191, 6, none⟩ = some (.slice none 0 0) := (blk_cell BK191.out 6).trans rfl
                      have hfz56_0 := blk_frozen BK191.out 0
                      have hfz56_1 := blk_frozen BK191.out 1
                      have hfz56_2 := blk_frozen BK191.out 2
                      have hfz56_3 := blk_frozen BK191.out 3
                      have hfz56_4 := blk_frozen BK191.out 4
                      have hfz56_5 := blk_frozen BK191.out 5
                      have hfz56_6 := blk_frozen BK191.out 6
                      have hnb57 := NB163_178.out
                      have hnc57 := NB178_163.out
                      have hcz58_0 : w45.cell? ⟨gb163, 0, none⟩ = some (.int .i64 x164000_2) := (blk_cell BK163.out 0).trans rfl
                      have hcz58_1 : w45.cell? ⟨gb163, 1, none⟩ = some (.int .i64 x164001_2) := (blk_cell BK163.out 1).trans rfl
                      have hcz58_2 : w45.cell? ⟨gb163, 2, none⟩ = some (.int .i64 x164002_2) := (blk_cell BK163.out 2).trans rfl
                      have hcz58_3 : w45.cell? ⟨gb163, 3, none⟩ = some (.int .i64 x164003_2) := (blk_cell BK163.out 3).trans rfl
                      have hcz58_4 : w45.cell? ⟨gb163, 4, none⟩ = some (.int .i64 x164004_2) := (blk_cell BK163.out 4).trans rfl
                      have hcz58_5 : w45.cell? ⟨gb163, 5, none⟩ = some (.bool x164005_2) := (blk_cell BK163.out 5).trans rfl
                      have hcz58_6 : w45.cell? ⟨gb163, 6, none⟩ = some (.slice none 0 0) := (blk_cell BK163.out 6).trans rfl
                      have hfz58_0 := blk_frozen BK163.out 0
                      have hfz58_1 := blk_frozen BK163.out 1
                      have hfz58_2 := blk_frozen BK163.out 2
                      have hfz58_3 := blk_frozen BK163.out 3
                      have hfz58_4 := blk_frozen BK163.out 4
                      have hfz58_5 := blk_frozen BK163.out 5
                      have hfz58_6 := blk_frozen BK163.out 6
                      try go_wp2
                      refine bodyPost_ret (results_ctt rfl _ _ gb163 28 #[.int .i64 t181, .int .i64 t182, .int .i64 t183, .int .i64 t184, .int .i64 t185, .bool t186, .slice Ao52 t187.length co52] (0, 0) _ rfl (by (with_reducible repeat (first | refine blk_drewN ?_ _ | refine blk_drew ?_ | refine blk_alloc ?_ _)); refine blk_put (cs := #[.int .i64 t181, .int .i64 t182, .int .i64 t183, .int .i64 t184, .int .i64 t185, .bool t186, .slice none 0 0]) ?_ 6 _ rfl; (with_reducible repeat (first | refine blk_drewN ?_ _ | refine blk_drew ?_ | refine blk_alloc ?_ _)); refine blk_put (cs := #[.int .i64 t181, .int .i64 t182, .int .i64 t183, .int .i64 t184, .int .i64 t185, .bool x164005_2, .slice none 0 0]) ?_ 5 _ rfl; (with_reducible repeat (first | refine blk_drewN ?_ _ | refine blk_drew ?_ | refine blk_alloc ?_ _)); refine blk_put (cs := #[.int .i64 t181, .int .i64 t182, .int .i64 t183, .int .i64 t184, .int .i64 x164004_2, .bool x164005_2, .slice none 0 0]) ?_ 4 _ rfl; (with_reducible repeat (first | refine blk_drewN ?_ _ | refine blk_drew ?_ | refine blk_alloc ?_ _)); refine blk_put (cs := #[.int .i64 t181, .int .i64 t182, .int .i64 t183, .int .i64 x164003_2, .int .i64 x164004_2, .bool x164005_2, .slice none 0 0]) ?_ 3 _ rfl; (with_reducible repeat (first | refine blk_drewN ?_ _ | refine blk_drew ?_ | refine blk_alloc ?_ _)); refine blk_put (cs := #[.int .i64 t181, .int .i64 t182, .int .i64 x164002_2, .int .i64 x164003_2, .int .i64 x164004_2, .bool x164005_2, .slice none 0 0]) ?_ 2 _ rfl; (with_reducible repeat (first | refine blk_drewN ?_ _ | refine blk_drew ?_ | refine blk_alloc ?_ _)); refine blk_put (cs := #[.int .i64 t181, .int .i64 x164001_2, .int .i64 x164002_2, .int .i64 x164003_2, .int .i64 x164004_2, .bool x164005_2, .slice none 0 0]) ?_ 1 _ rfl; (with_reducible repeat (first | refine blk_drewN ?_ _ | refine blk_drew ?_ | refine blk_alloc ?_ _)); refine blk_put (cs := #[.int .i64 x164000_2, .int .i64 x164001_2, .int .i64 x164002_2, .int .i64 x164003_2, .int .i64 x164004_2, .bool x164005_2, .slice none 0 0]) ?_ 0 _ rfl; (with_reducible repeat (first | refine blk_drewN ?_ _ | refine blk_drew ?_ | refine blk_alloc ?_ _)); refine blk_far ?_ NB163_191.out _; (with_reducible repeat (first | refine blk_drewN ?_ _ | refine blk_drew ?_ | refine blk_alloc ?_ _)); refine blk_far ?_ NB163_191.out _; (with_reducible repeat (first | refine blk_drewN ?_ _ | refine blk_drew ?_ | refine blk_alloc ?_ _)); refine blk_far ?_ NB163_191.out _; (with_reducible repeat (first | refine blk_drewN ?_ _ | refine blk_drew ?_ | refine blk_alloc ?_ _)); refine blk_far ?_ NB163_191.out _; (with_reducible repeat (first | refine blk_drewN ?_ _ | refine blk_drew ?_ | refine blk_alloc ?_ _)); refine blk_far ?_ NB163_191.out _; (with_reducible repeat (first | refine blk_drewN ?_ _ | refine blk_drew ?_ | refine blk_alloc ?_ _)); refine blk_far ?_ NB163_191.out _; (with_reducible repeat (first | refine blk_drewN ?_ _ | refine blk_drew ?_ | refine blk_alloc ?_ _)); refine blk_far ?_ NB163_191.out _; (with_reducible repeat (first | refine blk_drewN ?_ _ | refine blk_drew ?_ | refine blk_alloc ?_ _)); exact BK163.out) Try.underlying28 rfl (by kernel_rfl)) rfl ?_
                      exact ⟨_, by first | rfl | (simp [errW_none, errW_some] <;> rfl) | (simp only [← hji17]; first | rfl | (simp [errW_none, errW_some] <;> rfl)) | (simp [*, errW_none, errW_some] <;> rfl), by (with_reducible repeat (first | apply Kd.R_alloc | apply Kd.R_drewN | apply Kd.R_drew)); exact Kd.R_mono (Kd.R_far (p := ⟨gb163, 6, none⟩) (Kd.R_far (p := ⟨gb163, 5, none⟩) (Kd.R_far (p := ⟨gb163, 4, none⟩) (Kd.R_far (p := ⟨gb163, 3, none⟩) (Kd.R_far (p := ⟨gb163, 2, none⟩) (Kd.R_far (p := ⟨gb163, 1, none⟩) (Kd.R_far (p := ⟨gb163, 0, none⟩) (Kd.R_far (p := ⟨gb191, 6, none⟩) (Kd.R_far (p := ⟨gb191, 5, none⟩) (Kd.R_far (p := ⟨gb191, 4, none⟩) (Kd.R_far (p := ⟨gb191, 3, none⟩) (Kd.R_far (p := ⟨gb191, 2, none⟩) (Kd.R_far (p := ⟨gb191, 1, none⟩) (Kd.R_far (p := ⟨gb191, 0, none⟩) (Kd.R_types (Kd.R_types HO189.out BK191.out (by decide)) BK163.out (by decide)) (fun _ hk => hk.1.2) (.int .i64 t181)) (fun _ hk => hk.1.2) (.int .i64 t182)) (fun _ hk => hk.1.2) (.int .i64 t183)) (fun _ hk => hk.1.2) (.int .i64 t184)) (fun _ hk => hk.1.2) (.int .i64 t185)) (fun _ hk => hk.1.2) (.bool t186)) (fun _ hk => hk.1.2) (.slice Ao52 t187.length co52)) (fun _ hk => hk.2) (.int .i64 t181)) (fun _ hk => hk.2) (.int .i64 t182)) (fun _ hk => hk.2) (.int .i64 t183)) (fun _ hk => hk.2) (.int .i64 t184)) (fun _ hk => hk.2) (.int .i64 t185)) (fun _ hk => hk.2) (.bool t186)) (fun _ hk => hk.2) (.slice Ao52 t187.length co52)) (fun _ hk => trivial), by repeat (first | (with_reducible first | exact HB.out | apply below_alloc | apply pw_below_drewN | apply below_drew1 | refine below_set ?_ GE163.out | refine below_set ?_ GE178.out | refine below_set ?_ GE191.out) | exact HB.out)⟩
                  · rw [if_neg c18] at H
                    exact absurd H (by simp)
                · rw [if_neg c16] at H
                  exact absurd H (by simp)
              · rw [if_neg c15] at H
                exact absurd H (by simp)
            · rw [if_neg c14] at H
              have c14b0 : decide ((wrap64 (x8_2 + 1)) < (x5_1.length : Int)) = false := decide_eq_false c14
              clear c14
              simp only [Option.some.injEq, Prod.mk.injEq] at H
              obtain ⟨rfl, rfl, rfl, rfl, rfl, rfl, rfl, rfl, rfl⟩ := H
              obtain ⟨Ao59, co59, eo59⟩ := Kd.R_slice HO_5.out
              subst eo59
              have hnb60 := NB178_163.out
              have hnc60 := NB163_178.out
              have hcz61_0 : wr.cell? ⟨gb178, 0, none⟩ = some (.int .i64 x179000_2) := (blk_cell BK178.out 0).trans rfl
              have hcz61_1 : wr.cell? ⟨gb178, 1, none⟩ = some (.int .i64 x179001_2) := (blk_cell BK178.out 1).trans rfl
              have hcz61_2 : wr.cell? ⟨gb178, 2, none⟩ = some (.int .i64 x179002_2) := (blk_cell BK178.out 2).trans rfl
              have hcz61_3 : wr.cell? ⟨gb178, 3, none⟩ = some (.int .i64 x179003_2) := (blk_cell BK178.out 3).trans rfl
              have hcz61_4 : wr.cell? ⟨gb178, 4, none⟩ = some (.int .i64 x179004_2) := (blk_cell BK178.out 4).trans rfl
              have hcz61_5 : wr.cell? ⟨gb178, 5, none⟩ = some (.bool x179005_2) := (blk_cell BK178.out 5).trans rfl
              have hcz61_6 : wr.cell? ⟨gb178, 6, none⟩ = some (u179006) := (blk_cell BK178.out 6).trans rfl
              have hfz61_0 := blk_frozen BK178.out 0
              have hfz61_1 := blk_frozen BK178.out 1
              have hfz61_2 := blk_frozen BK178.out 2
              have hfz61_3 := blk_frozen BK178.out 3
              have hfz61_4 := blk_frozen BK178.out 4
              have hfz61_5 := blk_frozen BK178.out 5
              have hfz61_6 := blk_frozen BK178.out 6
              have hcz62_0 : wr.cell? ⟨gb163, 0, none⟩ = some (.int .i64 x164000_2) := (blk_cell BK163.out 0).trans rfl
              have hcz62_1 : wr.cell? ⟨gb163, 1, none⟩ = some (.int .i64 x164001_2) := (blk_cell BK163.out 1).trans rfl
              have hcz62_2 : wr.cell? ⟨gb163, 2, none⟩ = some (.int .i64 x164002_2) := (blk_cell BK163.out 2).trans rfl
              have hcz62_3 : wr.cell? ⟨gb163, 3, none⟩ = some (.int .i64 x164003_2) := (blk_cell BK163.out 3).trans rfl
              have hcz62_4 : wr.cell? ⟨gb163, 4, none⟩ = some (.int .i64 x164004_2) := (blk_cell BK163.out 4).trans rfl
              have hcz62_5 : wr.cell? ⟨gb163, 5, none⟩ = some (.bool x164005_2) := (blk_cell BK163.out 5).trans rfl
              have hcz62_6 : wr.cell? ⟨gb163, 6, none⟩ = some (.slice none 0 0) := (blk_cell BK163.out 6).trans rfl
              have hfz62_0 := blk_frozen BK163.out 0
              have hfz62_1 := blk_frozen BK163.out 1
              have hfz62_2 := blk_frozen BK163.out 2
              have hfz62_3 := blk_frozen BK163.out 3
              have hfz62_4 := blk_frozen BK163.out 4
              have hfz62_5 := blk_frozen BK163.out 5
              have hfz62_6 := blk_frozen BK163.out 6
              obtain ⟨Ao63, co63, eo63⟩ := Kd.R_slice HO_179006.out
              subst eo63
              go_wp2
              refine bodyPost_ret (results_ctt rfl _ _ gb163 28 #[.int .i64 x179000_2, .int .i64 x179001_2, .int .i64 x179002_2, .int .i64 x179003_2, .int .i64 x179004_2, .bool x179005_2, .slice Ao63 x179006_2.length co63] (0, 0) _ rfl (by (with_reducible repeat (first | refine blk_drewN ?_ _ | refine blk_drew ?_ | refine blk_alloc ?_ _)); refine blk_put (cs := #[.int .i64 x179000_2, .int .i64 x179001_2, .int .i64 x179002_2, .int .i64 x179003_2, .int .i64 x179004_2, .bool x179005_2, .slice none 0 0]) ?_ 6 _ rfl; (with_reducible repeat (first | refine blk_drewN ?_ _ | refine blk_drew ?_ | refine blk_alloc ?_ _)); refine blk_put (cs := #[.int .i64 x179000_2, .int .i64 x179001_2, .int .i64 x179002_2, .int .i64 x179003_2, .int .i64 x179004_2, .bool x164005_2, .slice none 0 0]) ?_ 5 _ rfl; (with_reducible repeat (first | refine blk_drewN ?_ _ | refine blk_drew ?_ | refine blk_alloc ?_ _)); refine blk_put (cs := #[.int .i64 x179000_2, .int .i64 x179001_2, .int .i64 x179002_2, .int .i64 x179003_2, .int .i64 x164004_2, .bool x164005_2, .slice none 0 0]) ?_ 4 _ rfl; (with_reducible repeat (first | refine blk_drewN ?_ _ | refine blk_drew ?_ | refine blk_alloc ?_ _)); refine blk_put (cs := #[.int .i64 x179000_2, .int .i64 x179001_2, .int .i64 x179002_2, .int .i64 x164003_2, .int .i64 x164004_2, .bool x164005_2, .slice none 0 0]) ?_ 3 _ rfl; (with_reducible repeat (first | refine blk_drewN ?_ _ | refine blk_drew ?_ | refine blk_alloc ?_ _)); refine blk_put (cs := #[.int .i64 x179000_2, .int .i64 x179001_2, .int .i64 x164002_2, .int .i64 x164003_2, .int .i64 x164004_2, .bool x164005_2, .slice none 0 0]) ?_ 2 _ rfl; (with_reducible repeat (first | refine blk_drewN ?_ _ | refine blk_drew ?_ | refine blk_alloc ?_ _)); refine blk_put (cs := #[.int .i64 x179000_2, .int .i64 x164001_2, .int .i64 x164002_2, .int .i64 x164003_2, .int .i64 x164004_2, .bool x164005_2, .slice none 0 0]) ?_ 1 _ rfl; (with_reducible repeat (first | refine blk_drewN ?_ _ | refine blk_drew ?_ | refine blk_alloc ?_ _)); refine blk_put (cs := #[.int .i64 x164000_2, .int .i64 x164001_2, .int .i64 x164002_2, .int .i64 x164003_2, .int .i64 x164004_2, .bool x164005_2, .slice none 0 0]) ?_ 0 _ rfl; (with_reducible repeat (first | refine blk_drewN ?_ _ | refine blk_drew ?_ | refine blk_alloc ?_ _)); exact BK163.out) Try.underlying28 rfl (by kernel_rfl)) rfl ?_
              exact ⟨_, by first | rfl | (simp [errW_none, errW_some] <;> rfl) | (simp [*, errW_none, errW_some] <;> rfl), by (with_reducible repeat (first | apply Kd.R_alloc | apply Kd.R_drewN | apply Kd.R_drew)); exact Kd.R_mono (Kd.R_far (p := ⟨gb163, 6, none⟩) (Kd.R_far (p := ⟨gb163, 5, none⟩) (Kd.R_far (p := ⟨gb163, 4, none⟩) (Kd.R_far (p := ⟨gb163, 3, none⟩) (Kd.R_far (p := ⟨gb163, 2, none⟩) (Kd.R_far (p := ⟨gb163, 1, none⟩) (Kd.R_far (p := ⟨gb163, 0, none⟩) (Kd.R_types HO_179006.out BK163.out (by decide)) (fun _ hk => hk.2) (.int .i64 x179000_2)) (fun _ hk => hk.2) (.int .i64 x179001_2)) (fun _ hk => hk.2) (.int .i64 x179002_2)) (fun _ hk => hk.2) (.int .i64 x179003_2)) (fun _ hk => hk.2) (.int .i64 x179004_2)) (fun _ hk => hk.2) (.bool x179005_2)) (fun _ hk => hk.2) (.slice Ao63 x179006_2.length co63)) (fun _ hk => trivial), by repeat (first | (with_reducible first | exact HB.out | apply below_alloc | apply pw_below_drewN | apply below_drew1 | refine below_set ?_ GE163.out | refine below_set ?_ GE178.out) | exact HB.out)⟩

end Go.Proofs.Ytbfepcajbbeheaa.P

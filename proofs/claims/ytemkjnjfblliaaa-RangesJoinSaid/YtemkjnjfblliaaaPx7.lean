-- Written by a program of this session (wip/tools/hp.py) out of the translation.
import Derived.Test.YtemkjnjfblliaaaPx0
namespace Go.Proofs.Ytemkjnjfblliaaa.P
open Go.RowKit Go.Proofs.YtemkjnjfblliaaaW.PrintWords Go.Proofs.YtemkjnjfblliaaaW.PrintLast Go.Proofs.YtemkjnjfblliaaaW.PrintMore
attribute [local go_sem] max2_int min2_int max_two min_two max_three min_three max_four min_four   -- for this text's walks alone
set_option linter.unusedVariables false
set_option linter.unusedSimpArgs false

/-! ### pascalineref16_Mark: function 10 -/
def pascalineref16_Mark.j0 : Nat → Int → Int → List (S29) → Int → Bool → Option ((List (S29)))
  | 0, _, _, _, _, _ => none
  | k + 1, x1, x2, x7, x8, x25 => if x25 = true then (if 0 ≤ (wrap64 (x8 - 1)) then (if (wrap64 (x8 - 1)) < (x7.length : Int) then (if (wrap64 (x8 - 1)) ≤ (x7.length : Int) then ((some (x7.take ((wrap64 (x8 - 1)) : Int).toNat : List (S29))).bind fun y111 => (if (wrap64 (x8 - 1)) > 0 then (if 0 ≤ (wrap64 ((wrap64 (x8 - 1)) - 1)) then (if (wrap64 ((wrap64 (x8 - 1)) - 1)) < (y111.length : Int) then (if ((rd_T29 y111 (wrap64 ((wrap64 (x8 - 1)) - 1))).f1) = x2 then (some y111) else (if y111.length < 8796093022208 then (some (y111 ++ [(⟨(rd_T29 x7 (wrap64 (x8 - 1))).f0, x2⟩ : S29)])) else (none))) else (none)) else (none)) else (if y111.length < 8796093022208 then (some (y111 ++ [(⟨(rd_T29 x7 (wrap64 (x8 - 1))).f0, x2⟩ : S29)])) else (none)))) else (none)) else (none)) else (none)) else (if x8 > 0 then (if 0 ≤ (wrap64 (x8 - 1)) then (if (wrap64 (x8 - 1)) < (x7.length : Int) then (if ((rd_T29 x7 (wrap64 (x8 - 1))).f1) = x2 then (some x7) else (if x7.length < 8796093022208 then (some (x7 ++ [(⟨x1, x2⟩ : S29)])) else (none))) else (none)) else (none)) else (if x7.length < 8796093022208 then (some (x7 ++ [(⟨x1, x2⟩ : S29)])) else (none)))
def pascalineref16_Mark.f (k : Nat) (l0 : List (S29)) (a1 : Int) (a2 : Int) : Option ((List (S29))) := (some (([] : List (S29)) : List (S29))).bind fun y103 => (if y103.length + l0.length < 8796093022208 then ((some (y103 ++ l0 : List (S29))).bind fun y106 => (if (y106.length : Int) > 0 then (if 0 ≤ (wrap64 ((y106.length : Int) - 1)) then (if (wrap64 ((y106.length : Int) - 1)) < (y106.length : Int) then (pascalineref16_Mark.j0 k a1 a2 y106 (y106.length : Int) (decide (a1 ≤ ((rd_T29 y106 (wrap64 ((y106.length : Int) - 1))).f0)))) else (none)) else (none)) else (pascalineref16_Mark.j0 k a1 a2 y106 (y106.length : Int) false))) else (none))
theorem pascalineref16_Mark.mono_l : ∀ k, (∀ y0 y1 y2 y3 y4, LeO (pascalineref16_Mark.j0 k y0 y1 y2 y3 y4) (pascalineref16_Mark.j0 (k + 1) y0 y1 y2 y3 y4))
  | 0 => fun _ _ _ _ _ r h => by simp [pascalineref16_Mark.j0] at h
  | k + 1 => by
    have ih0 := pascalineref16_Mark.mono_l k
    · intro y0 y1 y2 y3 y4
      unfold pascalineref16_Mark.j0
      repeat' first
      | (with_reducible exact ih0 _ _ _ _ _)
      | (with_reducible exact LeO.refl _)
      | (with_reducible exact LeO.none _)
      | (with_reducible refine LeO.ite ?_ ?_)
      | (with_reducible refine LeO.bind ?_ (fun _ => ?_))
      | exact ih0 _ _ _ _ _
      | exact LeO.none _
      | refine LeO.ite ?_ ?_
      | refine LeO.bind ?_ (fun _ => ?_)
theorem pascalineref16_Mark.mono : ∀ a0 a1 a2 k, LeO (pascalineref16_Mark.f k a0 a1 a2) (pascalineref16_Mark.f (k + 1) a0 a1 a2) := by
  intro a0 a1 a2 k
  have ih0 := pascalineref16_Mark.mono_l k
  unfold pascalineref16_Mark.f
  repeat' first
      | (with_reducible exact ih0 _ _ _ _ _)
      | (with_reducible exact LeO.refl _)
      | (with_reducible exact LeO.none _)
      | (with_reducible refine LeO.ite ?_ ?_)
      | (with_reducible refine LeO.bind ?_ (fun _ => ?_))
      | exact ih0 _ _ _ _ _
      | exact LeO.none _
      | refine LeO.ite ?_ ?_
      | refine LeO.bind ?_ (fun _ => ?_)
set_option maxHeartbeats 8000000 in
set_option maxRecDepth 100000 in
theorem pascalineref16_Mark.calls (k : Nat) (A0 : Option Addr) (c0 : Nat) (l0 : List (S29)) (a1 : Int) (a2 : Int) (r : List (S29)) (w : World) (hr0 : Kd.C k29 w A0 l0.length l0) (hc0 : l0.length ≤ c0) (h : pascalineref16_Mark.f k l0 a1 a2 = some r) :
    Calls Try.prog 10 #[.slice A0 l0.length c0, .int .i64 a1, .int .i64 a2] w fun e w' => ∃ v0_ : Value, e = .returned (v0_) ∧ Kd.R k29 29 w' w.heap.size (fun _ => True) v0_ r ∧ Below w.heap.size w w' := by
  have hu29 := Try.underlying29
  have HR0 := Aside0.mk hr0
  have HC0 := Aside0.mk hc0
  clear hr0 hc0
  have HB := Aside0.mk (Below.refl w.heap.size w)
  have H : ((some (([] : List (S29)) : List (S29))).bind fun y103 => (if y103.length + l0.length < 8796093022208 then ((some (y103 ++ l0 : List (S29))).bind fun y106 => (if (y106.length : Int) > 0 then (if 0 ≤ (wrap64 ((y106.length : Int) - 1)) then (if (wrap64 ((y106.length : Int) - 1)) < (y106.length : Int) then (pascalineref16_Mark.j0 k a1 a2 y106 (y106.length : Int) (decide (a1 ≤ ((rd_T29 y106 (wrap64 ((y106.length : Int) - 1))).f0)))) else (none)) else (none)) else (pascalineref16_Mark.j0 k a1 a2 y106 (y106.length : Int) false))) else (none))) = some r := h
  clear h
  obtain ⟨y103, hy103⟩ : ∃ y_ : List (S29), y_ = (([] : List (S29))) := ⟨_, rfl⟩
  replace H : (if y103.length + l0.length < 8796093022208 then ((some (y103 ++ l0 : List (S29))).bind fun y106 => (if (y106.length : Int) > 0 then (if 0 ≤ (wrap64 ((y106.length : Int) - 1)) then (if (wrap64 ((y106.length : Int) - 1)) < (y106.length : Int) then (pascalineref16_Mark.j0 k a1 a2 y106 (y106.length : Int) (decide (a1 ≤ ((rd_T29 y106 (wrap64 ((y106.length : Int) - 1))).f0)))) else (none)) else (none)) else (pascalineref16_Mark.j0 k a1 a2 y106 (y106.length : Int) false))) else (none)) = some r := by first | (rw [hy103]; with_reducible exact H) | (have H2_ := (Option.bind_some _ _).symm.trans H; rw [hy103]; with_reducible exact H2_) | (have H2_ := (Option.bind_some _ _).symm.trans H; with_reducible exact H2_) | with_reducible exact H | (rw [hy103]; exact H) | exact H
  have Ny103 := Aside0.mk hy103
  clear hy103
  by_cases c4 : y103.length + l0.length < 8796093022208
  · rw [if_pos c4] at H
    have LMc4 := Aside0.mk c4
    clear c4
    obtain ⟨y106, hy106⟩ : ∃ y_ : List (S29), y_ = (y103 ++ l0) := ⟨_, rfl⟩
    replace H : (if (y106.length : Int) > 0 then (if 0 ≤ (wrap64 ((y106.length : Int) - 1)) then (if (wrap64 ((y106.length : Int) - 1)) < (y106.length : Int) then (pascalineref16_Mark.j0 k a1 a2 y106 (y106.length : Int) (decide (a1 ≤ ((rd_T29 y106 (wrap64 ((y106.length : Int) - 1))).f0)))) else (none)) else (none)) else (pascalineref16_Mark.j0 k a1 a2 y106 (y106.length : Int) false)) = some r := by first | (rw [hy106]; with_reducible exact H) | (have H2_ := (Option.bind_some _ _).symm.trans H; rw [hy106]; with_reducible exact H2_) | (have H2_ := (Option.bind_some _ _).symm.trans H; with_reducible exact H2_) | with_reducible exact H | (rw [hy106]; exact H) | exact H
    have Ny106 := Aside0.mk hy106
    clear hy106
    have HC5 := Aside0.mk H
    clear H
    go_enter Try.func10, Try.ntmps10
    go_upto_region 3 with (first | ((with_reducible refine gate_dst (N := 9) rfl ?_); refine Kd.R_lit k29 _ 29 ?hg (N := 9) ?hd (xs := ([] : List (S29))) (inner := []) (ok := fun _ => True) (okp := fun _ => True) ?hr ?hp (fun _ hk => hk) trivial (Below.refl _ _) (Nat.le_refl _) (by simp) ?_; (case hd => rfl); (case hg => rfl); (case hr => first | (go_simp; done) | (go_simp; rfl)); (case hp => exact (Reps.none _ _)); intro v104 w6 ho7 hb hg_ hnew_; clear hg_ hnew_; (first | rw [← Ny103.out] at ho7 | (simp only [Int.reduceToNat] at ho7; rw [← Ny103.out] at ho7)); have n0_ := Aside0.mk (Kd.R_lower ho7 (below_size (by repeat (first | (with_reducible first | exact HB.out | apply below_alloc | apply pw_below_drewN | apply below_drew1) | exact HB.out)))); have n1_ := Aside0.mk (below_step (by repeat (first | (with_reducible first | exact HB.out | apply below_alloc | apply pw_below_drewN | apply below_drew1) | exact HB.out)) hb); clear HB; have HO105 := n0_; have HB := n1_; clear n0_ n1_; clear hb ho7) | ((with_reducible refine gate_builtin (b := .append) (xs := #[.tmp 9, .tmp 10]) rfl ?_); at_builtin; refine Kd.R_append_rows k29 (w0 := w) w.heap.size rfl (.tmp 9) (.tmp 10) 22 29 (.agg #[(.int .i64 0), (.int .i64 0)]) 16 rfl Try.underlying22 info29 rfl (by decide) (by omega) v104 y103 l0 _ _ _ (fun _ => True) (fun _ => False) rfl rfl ?aO ?aR (fun _ _ h => h) (fun _ h => h.elim) ?aF ?aB ?aS ?aL ?_; (case aR => repeat (first | exact (Kd.C_below HR0.out HB.out) | (with_reducible refine Kd.C_alloc ?_ _) | (with_reducible refine Kd.C_drewN ?_ _) | (with_reducible refine Kd.C_drew ?_))); (case aB => exact (by repeat (first | (with_reducible first | exact HB.out | apply below_alloc | apply pw_below_drewN | apply below_drew1) | exact HB.out))); (case aF => exact (fun _ _ => trivial)); (case aO => exact (by (with_reducible repeat (first | apply Kd.R_alloc | apply Kd.R_drewN | apply Kd.R_drew)); exact HO105.out)); (case aS => exact (below_size (by repeat (first | (with_reducible first | exact HB.out | apply below_alloc | apply pw_below_drewN | apply below_drew1) | exact HB.out)))); (case aL => have := LMc4.out; omega); intro v107 w8 ho hb hg hat; rw [← Ny106.out] at ho; have n0_ := Aside0.mk (hb); have n1_ := Aside0.mk (ho); clear HB; clear HO105; have HB := n0_; have HO108 := n1_; clear n0_ n1_; clear ho hb hg hat; obtain ⟨Ao9, co9, eo9⟩ := Kd.R_slice HO108.out; subst eo9))
    (try simp only [Act.put, List.setIfInBounds_toArray, List.set_cons_zero, List.set_cons_succ])
    go_cut [25] (fun v25 wc => ∃ (kq : Nat) (x25_4 : Bool), v25 = .bool x25_4 ∧ Aside0 (pascalineref16_Mark.j0 kq a1 a2 y106 (y106.length : Int) x25_4 = some r) ∧ Aside0 (kq ≤ k) ∧ Aside0 (Kd.R k29 29 wc w.heap.size (fun _ => True) (.slice Ao9 y106.length co9) y106) ∧ Aside0 (Below w.heap.size w wc))
    case first =>
      have H := HC5.out
      clear HC5
      by_cases c10 : (y106.length : Int) > 0
      · rw [if_pos c10] at H
        have c10b0 : decide (0 < (y106.length : Int)) = true := decide_eq_true c10
        have c10b1 : decide (0 < y106.length) = true := decide_eq_true (by omega)
        clear c10
        (first | rw [c10b0] | (simp only [i64_w, i32_w]; rw [c10b0]) | skip)
        obtain ⟨ji11, hji11⟩ : ∃ j_ : Int, (wrap64 ((y106.length : Int) - 1)) = j_ := ⟨_, rfl⟩
        replace H : (if 0 ≤ (ji11) then (if (ji11) < (y106.length : Int) then (pascalineref16_Mark.j0 k a1 a2 y106 (y106.length : Int) (decide (a1 ≤ ((rd_T29 y106 (ji11)).f0)))) else (none)) else (none)) = some r := by first | (rw [hji11] at H; exact H) | (simp only [hji11] at H ⊢; exact H)
        have hji11w : (IntKind.i64.wrap ((y106.length : Int) - 1)) = ji11 := (i64_w _).trans hji11
        by_cases c12 : 0 ≤ (ji11)
        · rw [if_pos c12] at H
          have c12b0 : decide (0 ≤ (ji11)) = true := decide_eq_true c12
          clear c12
          by_cases c13 : (ji11) < (y106.length : Int)
          · rw [if_pos c13] at H
            have c13b0 : decide ((ji11) < (y106.length : Int)) = true := decide_eq_true c13
            clear c13
            have H' := Aside0.mk H
            clear H
            have p109 : 0 ≤ ((ji11) : Int) := of_decide_eq_true (by first | (with_reducible assumption) | assumption)
            have q109 : (ji11) < (y106.length : Int) := of_decide_eq_true (by first | (with_reducible assumption) | assumption)
            obtain ⟨ad109, e109, hx109_0, hx109_1⟩ := at_T29 (Kd.R_reads' HO108.out).2.2 (ji11) p109 q109
            cases e109
            replace p109 := eq_true p109
            replace q109 := eq_true q109
            go_wp2
            go_meet
            case rel => exact ⟨_, (decide (a1 ≤ ((rd_T29 y106 (ji11)).f0))), (by first | rfl | (simp; done) | (simp only [← hji11] <;> (first | rfl | simp)) | (simp [*]; done)), H', ⟨by first | omega | exact Nat.le_refl _⟩, ⟨by (with_reducible repeat (first | apply Kd.R_alloc | apply Kd.R_drewN | apply Kd.R_drew)); exact HO108.out⟩, ⟨by repeat (first | (with_reducible first | exact HB.out | apply below_alloc | apply pw_below_drewN | apply below_drew1) | exact HB.out)⟩⟩
          · rw [if_neg c13] at H
            exact absurd H (by simp)
        · rw [if_neg c12] at H
          exact absurd H (by simp)
      · rw [if_neg c10] at H
        have c10b0 : decide (0 < (y106.length : Int)) = false := decide_eq_false c10
        have c10b1 : decide (0 < y106.length) = false := decide_eq_false (by omega)
        clear c10
        (first | rw [c10b0] | (simp only [i64_w, i32_w]; rw [c10b0]) | skip)
        have H' := Aside0.mk H
        clear H
        go_wp2
        go_meet
        case rel => exact ⟨_, (false), (by first | rfl | (simp; done) | (simp [*]; done)), H', ⟨by first | omega | exact Nat.le_refl _⟩, ⟨by (with_reducible repeat (first | apply Kd.R_alloc | apply Kd.R_drewN | apply Kd.R_drew)); exact HO108.out⟩, ⟨by repeat (first | (with_reducible first | exact HB.out | apply below_alloc | apply pw_below_drewN | apply below_drew1) | exact HB.out)⟩⟩
    case rest =>
      clear HC5
      try clear c1
      try clear p1
      try clear q1
      try clear hx1
      try clear p2
      try clear c4
      try clear p6
      try clear c10
      try clear c10b0
      try clear c10b1
      try clear p10
      try clear q10
      try clear hx10
      try clear c12
      try clear c12b0
      try clear c13
      try clear c13b0
      try clear hx109_0
      try clear hx109_1
      try clear p109
      try clear q109
      obtain ⟨kq, x25_4, rfl, HA, HJ4, HO_7, HB⟩ := hcut
      cases kq with
      | zero => exact absurd HA.out (by simp [pascalineref16_Mark.j0])
      | succ kj4 =>
        have H := HA.out
        clear HA
        simp only [pascalineref16_Mark.j0] at H
        by_cases c14 : x25_4 = true
        · subst c14
          have H1 : (if 0 ≤ (wrap64 ((y106.length : Int) - 1)) then (if (wrap64 ((y106.length : Int) - 1)) < (y106.length : Int) then (if (wrap64 ((y106.length : Int) - 1)) ≤ (y106.length : Int) then ((some (y106.take ((wrap64 ((y106.length : Int) - 1)) : Int).toNat : List (S29))).bind fun y111 => (if (wrap64 ((y106.length : Int) - 1)) > 0 then (if 0 ≤ (wrap64 ((wrap64 ((y106.length : Int) - 1)) - 1)) then (if (wrap64 ((wrap64 ((y106.length : Int) - 1)) - 1)) < (y111.length : Int) then (if ((rd_T29 y111 (wrap64 ((wrap64 ((y106.length : Int) - 1)) - 1))).f1) = a2 then (some y111) else (if y111.length < 8796093022208 then (some (y111 ++ [(⟨(rd_T29 y106 (wrap64 ((y106.length : Int) - 1))).f0, a2⟩ : S29)])) else (none))) else (none)) else (none)) else (if y111.length < 8796093022208 then (some (y111 ++ [(⟨(rd_T29 y106 (wrap64 ((y106.length : Int) - 1))).f0, a2⟩ : S29)])) else (none)))) else (none)) else (none)) else (none)) = some r := by rw [if_pos rfl] at H; exact H
          clear H
          have H := H1
          clear H1
          obtain ⟨ji15, hji15⟩ : ∃ j_ : Int, (wrap64 ((y106.length : Int) - 1)) = j_ := ⟨_, rfl⟩
          replace H : (if 0 ≤ (ji15) then (if (ji15) < (y106.length : Int) then (if (ji15) ≤ (y106.length : Int) then ((some (y106.take ((ji15) : Int).toNat : List (S29))).bind fun y111 => (if (ji15) > 0 then (if 0 ≤ (wrap64 ((ji15) - 1)) then (if (wrap64 ((ji15) - 1)) < (y111.length : Int) then (if ((rd_T29 y111 (wrap64 ((ji15) - 1))).f1) = a2 then (some y111) else (if y111.length < 8796093022208 then (some (y111 ++ [(⟨(rd_T29 y106 (ji15)).f0, a2⟩ : S29)])) else (none))) else (none)) else (none)) else (if y111.length < 8796093022208 then (some (y111 ++ [(⟨(rd_T29 y106 (ji15)).f0, a2⟩ : S29)])) else (none)))) else (none)) else (none)) else (none)) = some r := by first | (rw [hji15] at H; exact H) | (simp only [hji15] at H ⊢; exact H)
          have hji15w : (IntKind.i64.wrap ((y106.length : Int) - 1)) = ji15 := (i64_w _).trans hji15
          by_cases c16 : 0 ≤ (ji15)
          · rw [if_pos c16] at H
            have c16b0 : decide (0 ≤ (ji15)) = true := decide_eq_true c16
            clear c16
            by_cases c17 : (ji15) < (y106.length : Int)
            · rw [if_pos c17] at H
              have c17b0 : decide ((ji15) < (y106.length : Int)) = true := decide_eq_true c17
              clear c17
              by_cases c18 : (ji15) ≤ (y106.length : Int)
              · rw [if_pos c18] at H
                have c18b0 := eq_true c18
                have c18b1 : decide ((ji15) ≤ (y106.length : Int)) = true := decide_eq_true c18
                clear c18
                obtain ⟨y111, hy111⟩ : ∃ y_ : List (S29), y_ = (y106.take ((ji15) : Int).toNat) := ⟨_, rfl⟩
                replace H : (if (ji15) > 0 then (if 0 ≤ (wrap64 ((ji15) - 1)) then (if (wrap64 ((ji15) - 1)) < (y111.length : Int) then (if ((rd_T29 y111 (wrap64 ((ji15) - 1))).f1) = a2 then (some y111) else (if y111.length < 8796093022208 then (some (y111 ++ [(⟨(rd_T29 y106 (ji15)).f0, a2⟩ : S29)])) else (none))) else (none)) else (none)) else (if y111.length < 8796093022208 then (some (y111 ++ [(⟨(rd_T29 y106 (ji15)).f0, a2⟩ : S29)])) else (none))) = some r := by first | (rw [hy111]; with_reducible exact H) | (have H2_ := (Option.bind_some _ _).symm.trans H; rw [hy111]; with_reducible exact H2_) | (have H2_ := (Option.bind_some _ _).symm.trans H; with_reducible exact H2_) | with_reducible exact H | (rw [hy111]; exact H) | exact H
                have Ny111 := Aside0.mk hy111
                clear hy111
                by_cases c19 : (ji15) > 0
                · rw [if_pos c19] at H
                  have c19b0 : decide (0 < (ji15)) = true := decide_eq_true c19
                  clear c19
                  obtain ⟨ji20, hji20⟩ : ∃ j_ : Int, (wrap64 ((ji15) - 1)) = j_ := ⟨_, rfl⟩
                  replace H : (if 0 ≤ (ji20) then (if (ji20) < (y111.length : Int) then (if ((rd_T29 y111 (ji20)).f1) = a2 then (some y111) else (if y111.length < 8796093022208 then (some (y111 ++ [(⟨(rd_T29 y106 (ji15)).f0, a2⟩ : S29)])) else (none))) else (none)) else (none)) = some r := by first | (rw [hji20] at H; exact H) | (simp only [hji20] at H ⊢; exact H)
                  have hji20w : (IntKind.i64.wrap ((ji15) - 1)) = ji20 := (i64_w _).trans hji20
                  by_cases c21 : 0 ≤ (ji20)
                  · rw [if_pos c21] at H
                    have c21b0 : decide (0 ≤ (ji20)) = true := decide_eq_true c21
                    clear c21
                    by_cases c22 : (ji20) < (y111.length : Int)
                    · rw [if_pos c22] at H
                      have c22b0 : decide ((ji20) < (y111.length : Int)) = true := decide_eq_true c22
                      clear c22
                      by_cases c23 : ((rd_T29 y111 (ji20)).f1) = a2
                      · rw [if_pos c23] at H
                        have c23b0 : (((rd_T29 y111 (ji20)).f1) == a2) = true := beq_iff_eq.mpr c23
                        have c23b1 : (((rd_T29 y111 (ji20)).f1) != a2) = false := bne_eq_false_iff_eq.mpr c23
                        clear c23
                        obtain rfl := Option.some.inj H
                        have p110 : 0 ≤ ((ji15) : Int) := of_decide_eq_true (by first | (with_reducible assumption) | assumption)
                        have q110 : (ji15) < (y106.length : Int) := of_decide_eq_true (by first | (with_reducible assumption) | assumption)
                        obtain ⟨ad110, e110, hx110_0, hx110_1⟩ := at_T29 (Kd.R_reads' HO_7.out).2.2 (ji15) p110 q110
                        cases e110
                        replace p110 := eq_true p110
                        replace q110 := eq_true q110
                        have q24 : ((ji15) : Int) ≤ ((y106.length : Int) : Int) := of_decide_eq_true (by first | (with_reducible assumption) | assumption)
                        obtain ⟨i024, hi024, _, hsz24, _⟩ := info_parts info29
                        have hcut24 := cut_to (P := Try.prog) 22 29 .i64 Try.underlying22 hi024 (some ad110) y106.length co9 (ji15) (of_decide_eq_true (by first | (with_reducible assumption) | assumption)) q24 (Kd.R_reads' HO_7.out).2.1
                        have hr24 := Kd.R_take (m := ((ji15) : Int).toNat) HO_7.out (by omega)
                        have hy24 : y111.length = ((ji15) : Int).toNat := (by rw [Ny111.out, List.length_take]; omega)
                        rw [← Ny111.out] at hr24
                        rw [← hy24] at hr24 hcut24
                        clear hy24 hi024 hsz24 HO_7
                        have HO113 := Aside0.mk hr24
                        clear hr24
                        replace q24 := eq_true q24
                        have p114 : 0 ≤ ((ji20) : Int) := of_decide_eq_true (by first | (with_reducible assumption) | assumption)
                        have q114 : (ji20) < (y111.length : Int) := of_decide_eq_true (by first | (with_reducible assumption) | assumption)
                        obtain ⟨ad114, e114, hx114_0, hx114_1⟩ := at_T29 (Kd.R_reads' HO113.out).2.2 (ji20) p114 q114
                        obtain rfl : ad110 = ad114 := (by injection e114)
                        replace p114 := eq_true p114
                        replace q114 := eq_true q114
                        go_wp2
                        go_ret
                        exact ⟨_, by first | rfl | (simp [errW_none, errW_some] <;> rfl) | (simp only [← hji15, ← hji20]; first | rfl | (simp [errW_none, errW_some] <;> rfl)) | (simp [*, errW_none, errW_some] <;> rfl), by (with_reducible repeat (first | apply Kd.R_alloc | apply Kd.R_drewN | apply Kd.R_drew)); exact HO113.out, by repeat (first | (with_reducible first | exact HB.out | apply below_alloc | apply pw_below_drewN | apply below_drew1) | exact HB.out)⟩
                      · rw [if_neg c23] at H
                        have c23b0 : (((rd_T29 y111 (ji20)).f1) == a2) = false := beq_eq_false_iff_ne.mpr c23
                        have c23b1 : (((rd_T29 y111 (ji20)).f1) != a2) = true := bne_iff_ne.mpr c23
                        by_cases c25 : y111.length < 8796093022208
                        · rw [if_pos c25] at H
                          have LMc25 := Aside0.mk c25
                          clear c25
                          obtain ⟨y115, hy115⟩ : ∃ y_ : List (S29), y_ = (y111 ++ [(⟨(rd_T29 y106 (ji15)).f0, a2⟩ : S29)]) := ⟨_, rfl⟩
                          replace H : (some y115) = some r := by first | (rw [hy115]; with_reducible exact H) | (have H2_ := (Option.bind_some _ _).symm.trans H; rw [hy115]; with_reducible exact H2_) | (have H2_ := (Option.bind_some _ _).symm.trans H; with_reducible exact H2_) | with_reducible exact H | (rw [hy115]; exact H) | exact H
                          have Ny115 := Aside0.mk hy115
                          clear hy115
                          obtain rfl := Option.some.inj H
                          have p110 : 0 ≤ ((ji15) : Int) := of_decide_eq_true (by first | (with_reducible assumption) | assumption)
                          have q110 : (ji15) < (y106.length : Int) := of_decide_eq_true (by first | (with_reducible assumption) | assumption)
                          obtain ⟨ad110, e110, hx110_0, hx110_1⟩ := at_T29 (Kd.R_reads' HO_7.out).2.2 (ji15) p110 q110
                          cases e110
                          replace p110 := eq_true p110
                          replace q110 := eq_true q110
                          have q26 : ((ji15) : Int) ≤ ((y106.length : Int) : Int) := of_decide_eq_true (by first | (with_reducible assumption) | assumption)
                          obtain ⟨i026, hi026, _, hsz26, _⟩ := info_parts info29
                          have hcut26 := cut_to (P := Try.prog) 22 29 .i64 Try.underlying22 hi026 (some ad110) y106.length co9 (ji15) (of_decide_eq_true (by first | (with_reducible assumption) | assumption)) q26 (Kd.R_reads' HO_7.out).2.1
                          have hr26 := Kd.R_take (m := ((ji15) : Int).toNat) HO_7.out (by omega)
                          have hy26 : y111.length = ((ji15) : Int).toNat := (by rw [Ny111.out, List.length_take]; omega)
                          rw [← Ny111.out] at hr26
                          rw [← hy26] at hr26 hcut26
                          clear hy26 hi026 hsz26 HO_7
                          have HO113 := Aside0.mk hr26
                          clear hr26
                          replace q26 := eq_true q26
                          have p114 : 0 ≤ ((ji20) : Int) := of_decide_eq_true (by first | (with_reducible assumption) | assumption)
                          have q114 : (ji20) < (y111.length : Int) := of_decide_eq_true (by first | (with_reducible assumption) | assumption)
                          obtain ⟨ad114, e114, hx114_0, hx114_1⟩ := at_T29 (Kd.R_reads' HO113.out).2.2 (ji20) p114 q114
                          obtain rfl : ad110 = ad114 := (by injection e114)
                          replace p114 := eq_true p114
                          replace q114 := eq_true q114
                          go_wp2_with (first | ((with_reducible refine gate_builtin (b := .append) (xs := #[.tmp 51, .tmp 55]) rfl ?_); at_builtin; refine Kd.R_append k29 (w0 := w) w.heap.size rfl (.tmp 51) (.tmp 55) 22 29 (.agg #[(.int .i64 0), (.int .i64 0)]) 16 rfl Try.underlying22 info29 rfl (by decide) (by omega) (.slice (some ad110) y111.length co9) y111 (⟨(rd_T29 y106 (ji15)).f0, a2⟩ : S29) [.int .i64 ((rd_T29 y106 (ji15)).f0), .int .i64 a2] (fun _ => True) (fun _ => False) rfl rfl ?aP (fun _ hk => hk.elim) ?aF ?aO ?aB ?aS ?aL ?_; (case aP => exact k29_mkM _ _ _ (⟨(rd_T29 y106 (ji15)).f0, a2⟩ : S29)); (case aB => exact (by repeat (first | (with_reducible first | exact HB.out | apply below_alloc | apply pw_below_drewN | apply below_drew1) | exact HB.out))); (case aF => exact (fun _ _ => trivial)); (case aO => exact (by (with_reducible repeat (first | apply Kd.R_alloc | apply Kd.R_drewN | apply Kd.R_drew)); exact HO113.out)); (case aS => exact (below_size (by repeat (first | (with_reducible first | exact HB.out | apply below_alloc | apply pw_below_drewN | apply below_drew1) | exact HB.out)))); (case aL => have := LMc25.out; omega); intro v116 w27 ho hb hg hat; rw [← Ny115.out] at ho; have n0_ := Aside0.mk (hb); have n1_ := Aside0.mk (ho); clear HB; clear HO113; have HB := n0_; have HO117 := n1_; clear n0_ n1_; clear ho hb hg hat))
                          go_ret
                          exact ⟨_, by first | rfl | (simp [errW_none, errW_some] <;> rfl) | (simp only [← hji15, ← hji20]; first | rfl | (simp [errW_none, errW_some] <;> rfl)) | (simp [*, errW_none, errW_some] <;> rfl), by (with_reducible repeat (first | apply Kd.R_alloc | apply Kd.R_drewN | apply Kd.R_drew)); exact HO117.out, by repeat (first | (with_reducible first | exact HB.out | apply below_alloc | apply pw_below_drewN | apply below_drew1) | exact HB.out)⟩
                        · rw [if_neg c25] at H
                          exact absurd H (by simp)
                    · rw [if_neg c22] at H
                      exact absurd H (by simp)
                  · rw [if_neg c21] at H
                    exact absurd H (by simp)
                · rw [if_neg c19] at H
                  have c19b0 : decide (0 < (ji15)) = false := decide_eq_false c19
                  clear c19
                  by_cases c28 : y111.length < 8796093022208
                  · rw [if_pos c28] at H
                    have LMc28 := Aside0.mk c28
                    clear c28
                    obtain ⟨y118, hy118⟩ : ∃ y_ : List (S29), y_ = (y111 ++ [(⟨(rd_T29 y106 (ji15)).f0, a2⟩ : S29)]) := ⟨_, rfl⟩
                    replace H : (some y118) = some r := by first | (rw [hy118]; with_reducible exact H) | (have H2_ := (Option.bind_some _ _).symm.trans H; rw [hy118]; with_reducible exact H2_) | (have H2_ := (Option.bind_some _ _).symm.trans H; with_reducible exact H2_) | with_reducible exact H | (rw [hy118]; exact H) | exact H
                    have Ny118 := Aside0.mk hy118
                    clear hy118
                    obtain rfl := Option.some.inj H
                    have p110 : 0 ≤ ((ji15) : Int) := of_decide_eq_true (by first | (with_reducible assumption) | assumption)
                    have q110 : (ji15) < (y106.length : Int) := of_decide_eq_true (by first | (with_reducible assumption) | assumption)
                    obtain ⟨ad110, e110, hx110_0, hx110_1⟩ := at_T29 (Kd.R_reads' HO_7.out).2.2 (ji15) p110 q110
                    cases e110
                    replace p110 := eq_true p110
                    replace q110 := eq_true q110
                    have q29 : ((ji15) : Int) ≤ ((y106.length : Int) : Int) := of_decide_eq_true (by first | (with_reducible assumption) | assumption)
                    obtain ⟨i029, hi029, _, hsz29, _⟩ := info_parts info29
                    have hcut29 := cut_to (P := Try.prog) 22 29 .i64 Try.underlying22 hi029 (some ad110) y106.length co9 (ji15) (of_decide_eq_true (by first | (with_reducible assumption) | assumption)) q29 (Kd.R_reads' HO_7.out).2.1
                    have hr29 := Kd.R_take (m := ((ji15) : Int).toNat) HO_7.out (by omega)
                    have hy29 : y111.length = ((ji15) : Int).toNat := (by rw [Ny111.out, List.length_take]; omega)
                    rw [← Ny111.out] at hr29
                    rw [← hy29] at hr29 hcut29
                    clear hy29 hi029 hsz29 HO_7
                    have HO113 := Aside0.mk hr29
                    clear hr29
                    replace q29 := eq_true q29
                    go_wp2_with (first | ((with_reducible refine gate_builtin (b := .append) (xs := #[.tmp 51, .tmp 55]) rfl ?_); at_builtin; refine Kd.R_append k29 (w0 := w) w.heap.size rfl (.tmp 51) (.tmp 55) 22 29 (.agg #[(.int .i64 0), (.int .i64 0)]) 16 rfl Try.underlying22 info29 rfl (by decide) (by omega) (.slice (some ad110) y111.length co9) y111 (⟨(rd_T29 y106 (ji15)).f0, a2⟩ : S29) [.int .i64 ((rd_T29 y106 (ji15)).f0), .int .i64 a2] (fun _ => True) (fun _ => False) rfl rfl ?aP (fun _ hk => hk.elim) ?aF ?aO ?aB ?aS ?aL ?_; (case aP => exact k29_mkM _ _ _ (⟨(rd_T29 y106 (ji15)).f0, a2⟩ : S29)); (case aB => exact (by repeat (first | (with_reducible first | exact HB.out | apply below_alloc | apply pw_below_drewN | apply below_drew1) | exact HB.out))); (case aF => exact (fun _ _ => trivial)); (case aO => exact (by (with_reducible repeat (first | apply Kd.R_alloc | apply Kd.R_drewN | apply Kd.R_drew)); exact HO113.out)); (case aS => exact (below_size (by repeat (first | (with_reducible first | exact HB.out | apply below_alloc | apply pw_below_drewN | apply below_drew1) | exact HB.out)))); (case aL => have := LMc28.out; omega); intro v119 w30 ho hb hg hat; rw [← Ny118.out] at ho; have n0_ := Aside0.mk (hb); have n1_ := Aside0.mk (ho); clear HB; clear HO113; have HB := n0_; have HO120 := n1_; clear n0_ n1_; clear ho hb hg hat))
                    go_ret
                    exact ⟨_, by first | rfl | (simp [errW_none, errW_some] <;> rfl) | (simp only [← hji15]; first | rfl | (simp [errW_none, errW_some] <;> rfl)) | (simp [*, errW_none, errW_some] <;> rfl), by (with_reducible repeat (first | apply Kd.R_alloc | apply Kd.R_drewN | apply Kd.R_drew)); exact HO120.out, by repeat (first | (with_reducible first | exact HB.out | apply below_alloc | apply pw_below_drewN | apply below_drew1) | exact HB.out)⟩
                  · rw [if_neg c28] at H
                    exact absurd H (by simp)
              · rw [if_neg c18] at H
                exact absurd H (by simp)
            · rw [if_neg c17] at H
              exact absurd H (by simp)
          · rw [if_neg c16] at H
            exact absurd H (by simp)
        · replace c14 := Bool.eq_false_iff.mpr c14
          subst c14
          have H1 : (if (y106.length : Int) > 0 then (if 0 ≤ (wrap64 ((y106.length : Int) - 1)) then (if (wrap64 ((y106.length : Int) - 1)) < (y106.length : Int) then (if ((rd_T29 y106 (wrap64 ((y106.length : Int) - 1))).f1) = a2 then (some y106) else (if y106.length < 8796093022208 then (some (y106 ++ [(⟨a1, a2⟩ : S29)])) else (none))) else (none)) else (none)) else (if y106.length < 8796093022208 then (some (y106 ++ [(⟨a1, a2⟩ : S29)])) else (none))) = some r := by rw [if_neg (show ¬ (false = true) by decide)] at H; exact H
          clear H
          have H := H1
          clear H1
          by_cases c31 : (y106.length : Int) > 0
          · rw [if_pos c31] at H
            have c31b0 : decide (0 < (y106.length : Int)) = true := decide_eq_true c31
            have c31b1 : decide (0 < y106.length) = true := decide_eq_true (by omega)
            clear c31
            obtain ⟨ji32, hji32⟩ : ∃ j_ : Int, (wrap64 ((y106.length : Int) - 1)) = j_ := ⟨_, rfl⟩
            replace H : (if 0 ≤ (ji32) then (if (ji32) < (y106.length : Int) then (if ((rd_T29 y106 (ji32)).f1) = a2 then (some y106) else (if y106.length < 8796093022208 then (some (y106 ++ [(⟨a1, a2⟩ : S29)])) else (none))) else (none)) else (none)) = some r := by first | (rw [hji32] at H; exact H) | (simp only [hji32] at H ⊢; exact H)
            have hji32w : (IntKind.i64.wrap ((y106.length : Int) - 1)) = ji32 := (i64_w _).trans hji32
            by_cases c33 : 0 ≤ (ji32)
            · rw [if_pos c33] at H
              have c33b0 : decide (0 ≤ (ji32)) = true := decide_eq_true c33
              clear c33
              by_cases c34 : (ji32) < (y106.length : Int)
              · rw [if_pos c34] at H
                have c34b0 : decide ((ji32) < (y106.length : Int)) = true := decide_eq_true c34
                clear c34
                by_cases c35 : ((rd_T29 y106 (ji32)).f1) = a2
                · rw [if_pos c35] at H
                  have c35b0 : (((rd_T29 y106 (ji32)).f1) == a2) = true := beq_iff_eq.mpr c35
                  have c35b1 : (((rd_T29 y106 (ji32)).f1) != a2) = false := bne_eq_false_iff_eq.mpr c35
                  clear c35
                  obtain rfl := Option.some.inj H
                  have p121 : 0 ≤ ((ji32) : Int) := of_decide_eq_true (by first | (with_reducible assumption) | assumption)
                  have q121 : (ji32) < (y106.length : Int) := of_decide_eq_true (by first | (with_reducible assumption) | assumption)
                  obtain ⟨ad121, e121, hx121_0, hx121_1⟩ := at_T29 (Kd.R_reads' HO_7.out).2.2 (ji32) p121 q121
                  cases e121
                  replace p121 := eq_true p121
                  replace q121 := eq_true q121
                  go_wp2
                  go_ret
                  exact ⟨_, by first | rfl | (simp [errW_none, errW_some] <;> rfl) | (simp only [← hji32]; first | rfl | (simp [errW_none, errW_some] <;> rfl)) | (simp [*, errW_none, errW_some] <;> rfl), by (with_reducible repeat (first | apply Kd.R_alloc | apply Kd.R_drewN | apply Kd.R_drew)); exact HO_7.out, by repeat (first | (with_reducible first | exact HB.out | apply below_alloc | apply pw_below_drewN | apply below_drew1) | exact HB.out)⟩
                · rw [if_neg c35] at H
                  have c35b0 : (((rd_T29 y106 (ji32)).f1) == a2) = false := beq_eq_false_iff_ne.mpr c35
                  have c35b1 : (((rd_T29 y106 (ji32)).f1) != a2) = true := bne_iff_ne.mpr c35
                  by_cases c36 : y106.length < 8796093022208
                  · rw [if_pos c36] at H
                    have LMc36 := Aside0.mk c36
                    clear c36
                    obtain ⟨y122, hy122⟩ : ∃ y_ : List (S29), y_ = (y106 ++ [(⟨a1, a2⟩ : S29)]) := ⟨_, rfl⟩
                    replace H : (some y122) = some r := by first | (rw [hy122]; with_reducible exact H) | (have H2_ := (Option.bind_some _ _).symm.trans H; rw [hy122]; with_reducible exact H2_) | (have H2_ := (Option.bind_some _ _).symm.trans H; with_reducible exact H2_) | with_reducible exact H | (rw [hy122]; exact H) | exact H
                    have Ny122 := Aside0.mk hy122
                    clear hy122
                    obtain rfl := Option.some.inj H
                    have p121 : 0 ≤ ((ji32) : Int) := of_decide_eq_true (by first | (with_reducible assumption) | assumption)
                    have q121 : (ji32) < (y106.length : Int) := of_decide_eq_true (by first | (with_reducible assumption) | assumption)
                    obtain ⟨ad121, e121, hx121_0, hx121_1⟩ := at_T29 (Kd.R_reads' HO_7.out).2.2 (ji32) p121 q121
                    cases e121
                    replace p121 := eq_true p121
                    replace q121 := eq_true q121
                    go_wp2_with (first | ((with_reducible refine gate_builtin (b := .append) (xs := #[.tmp 51, .tmp 55]) rfl ?_); at_builtin; refine Kd.R_append k29 (w0 := w) w.heap.size rfl (.tmp 51) (.tmp 55) 22 29 (.agg #[(.int .i64 0), (.int .i64 0)]) 16 rfl Try.underlying22 info29 rfl (by decide) (by omega) (.slice (some ad121) y106.length co9) y106 (⟨a1, a2⟩ : S29) [.int .i64 a1, .int .i64 a2] (fun _ => True) (fun _ => False) rfl rfl ?aP (fun _ hk => hk.elim) ?aF ?aO ?aB ?aS ?aL ?_; (case aP => exact k29_mkM _ _ _ (⟨a1, a2⟩ : S29)); (case aB => exact (by repeat (first | (with_reducible first | exact HB.out | apply below_alloc | apply pw_below_drewN | apply below_drew1) | exact HB.out))); (case aF => exact (fun _ _ => trivial)); (case aO => exact (by (with_reducible repeat (first | apply Kd.R_alloc | apply Kd.R_drewN | apply Kd.R_drew)); exact HO_7.out)); (case aS => exact (below_size (by repeat (first | (with_reducible first | exact HB.out | apply below_alloc | apply pw_below_drewN | apply below_drew1) | exact HB.out)))); (case aL => have := LMc36.out; omega); intro v123 w37 ho hb hg hat; rw [← Ny122.out] at ho; have n0_ := Aside0.mk (hb); have n1_ := Aside0.mk (ho); clear HB; clear HO_7; have HB := n0_; have HO124 := n1_; clear n0_ n1_; clear ho hb hg hat))
                    go_ret
                    exact ⟨_, by first | rfl | (simp [errW_none, errW_some] <;> rfl) | (simp only [← hji32]; first | rfl | (simp [errW_none, errW_some] <;> rfl)) | (simp [*, errW_none, errW_some] <;> rfl), by (with_reducible repeat (first | apply Kd.R_alloc | apply Kd.R_drewN | apply Kd.R_drew)); exact HO124.out, by repeat (first | (with_reducible first | exact HB.out | apply below_alloc | apply pw_below_drewN | apply below_drew1) | exact HB.out)⟩
                  · rw [if_neg c36] at H
                    exact absurd H (by simp)
              · rw [if_neg c34] at H
                exact absurd H (by simp)
            · rw [if_neg c33] at H
              exact absurd H (by simp)
          · rw [if_neg c31] at H
            have c31b0 : decide (0 < (y106.length : Int)) = false := decide_eq_false c31
            have c31b1 : decide (0 < y106.length) = false := decide_eq_false (by omega)
            clear c31
            by_cases c38 : y106.length < 8796093022208
            · rw [if_pos c38] at H
              have LMc38 := Aside0.mk c38
              clear c38
              obtain ⟨y125, hy125⟩ : ∃ y_ : List (S29), y_ = (y106 ++ [(⟨a1, a2⟩ : S29)]) := ⟨_, rfl⟩
              replace H : (some y125) = some r := by first | (rw [hy125]; with_reducible exact H) | (have H2_ := (Option.bind_some _ _).symm.trans H; rw [hy125]; with_reducible exact H2_) | (have H2_ := (Option.bind_some _ _).symm.trans H; with_reducible exact H2_) | with_reducible exact H | (rw [hy125]; exact H) | exact H
              have Ny125 := Aside0.mk hy125
              clear hy125
              obtain rfl := Option.some.inj H
              go_wp2_with (first | ((with_reducible refine gate_builtin (b := .append) (xs := #[.tmp 51, .tmp 55]) rfl ?_); at_builtin; refine Kd.R_append k29 (w0 := w) w.heap.size rfl (.tmp 51) (.tmp 55) 22 29 (.agg #[(.int .i64 0), (.int .i64 0)]) 16 rfl Try.underlying22 info29 rfl (by decide) (by omega) (.slice Ao9 y106.length co9) y106 (⟨a1, a2⟩ : S29) [.int .i64 a1, .int .i64 a2] (fun _ => True) (fun _ => False) rfl rfl ?aP (fun _ hk => hk.elim) ?aF ?aO ?aB ?aS ?aL ?_; (case aP => exact k29_mkM _ _ _ (⟨a1, a2⟩ : S29)); (case aB => exact (by repeat (first | (with_reducible first | exact HB.out | apply below_alloc | apply pw_below_drewN | apply below_drew1) | exact HB.out))); (case aF => exact (fun _ _ => trivial)); (case aO => exact (by (with_reducible repeat (first | apply Kd.R_alloc | apply Kd.R_drewN | apply Kd.R_drew)); exact HO_7.out)); (case aS => exact (below_size (by repeat (first | (with_reducible first | exact HB.out | apply below_alloc | apply pw_below_drewN | apply below_drew1) | exact HB.out)))); (case aL => have := LMc38.out; omega); intro v126 w39 ho hb hg hat; rw [← Ny125.out] at ho; have n0_ := Aside0.mk (hb); have n1_ := Aside0.mk (ho); clear HB; clear HO_7; have HB := n0_; have HO127 := n1_; clear n0_ n1_; clear ho hb hg hat))
              go_ret
              exact ⟨_, by first | rfl | (simp [errW_none, errW_some] <;> rfl) | (simp [*, errW_none, errW_some] <;> rfl), by (with_reducible repeat (first | apply Kd.R_alloc | apply Kd.R_drewN | apply Kd.R_drew)); exact HO127.out, by repeat (first | (with_reducible first | exact HB.out | apply below_alloc | apply pw_below_drewN | apply below_drew1) | exact HB.out)⟩
            · rw [if_neg c38] at H
              exact absurd H (by simp)
  · rw [if_neg c4] at H
    exact absurd H (by simp)

end Go.Proofs.Ytemkjnjfblliaaa.P

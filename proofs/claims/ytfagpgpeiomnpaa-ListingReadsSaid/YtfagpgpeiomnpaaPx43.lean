-- Written by a program of this session (wip/tools/hp.py) out of the translation.
import Derived.Test.YtfagpgpeiomnpaaPx0
import Derived.Test.YtfagpgpeiomnpaaPx18
import Derived.Test.YtfagpgpeiomnpaaPx41
namespace Go.Proofs.Ytfagpgpeiomnpaa.P
open Go.RowKit Go.Proofs.YtfagpgpeiomnpaaW.PrintWords Go.Proofs.YtfagpgpeiomnpaaW.PrintLast Go.Proofs.YtfagpgpeiomnpaaW.PrintMore
attribute [local go_sem] max2_int min2_int max_two min_two max_three min_three max_four min_four   -- for this text's walks alone
set_option linter.unusedVariables false
set_option linter.unusedSimpArgs false

/-! ### listing_Read: function 13 -/
mutual
def listing_Read.l0 : Nat → ByteArray → Int → List Int → Int → Option (Int × List Int × Int × Int)
 | 0, _, _, _, _ => none
 | k + 1, x0, x6, x7, x8 => if (x0.size : Int) > 0 then ((strings_Cut.f x0 (⟨#[10]⟩ : ByteArray)).bind fun bt317 => (if bt317.2.2 = true then (listing_Read.j1 k x6 x7 (wrap64 (x8 + 1)) bt317.1 bt317.2.1 (decide ((bt317.1.size : Int) < 17))) else (listing_Read.j1 k x6 x7 (wrap64 (x8 + 1)) bt317.1 bt317.2.1 true))) else (some (x6, x7, 0, 0))
def listing_Read.j1 : Nat → Int → List Int → Int → ByteArray → ByteArray → Bool → Option (Int × List Int × Int × Int)
 | 0, _, _, _, _, _, _ => none
 | k + 1, x6, x7, x8, x9, x10, x33 => if x33 = true then (some (0, ([] : List Int), x8, 22)) else (if 0 ≤ 8 then (if 8 ≤ (x9.size : Int) then ((word_ParseHex.f k (x9.extract 0 8)).bind fun bt320 => (if 9 ≤ 17 then (if 17 ≤ (x9.size : Int) then ((word_ParseHex.f k (x9.extract 9 17)).bind fun bt322 => (if x8 = 1 then (if bt320.2 = true then (if bt322.2 = true then ((listing_Line.f k ((bt320.1 + ((wrap64 (4 * (x7.length : Int))) % 4294967296)) % 4294967296) bt322.1).bind fun t324 => (if x9.toList = t324.toList then (if x7.length < 35184372088832 then (listing_Read.l0 k x10 bt320.1 (x7 ++ [bt322.1]) x8) else (none)) else (some (0, ([] : List Int), x8, 22)))) else (some (0, ([] : List Int), x8, 22))) else (some (0, ([] : List Int), x8, 22))) else (if bt320.2 = true then (if bt322.2 = true then ((listing_Line.f k ((x6 + ((wrap64 (4 * (x7.length : Int))) % 4294967296)) % 4294967296) bt322.1).bind fun t328 => (if x9.toList = t328.toList then (if x7.length < 35184372088832 then (listing_Read.l0 k x10 x6 (x7 ++ [bt322.1]) x8) else (none)) else (some (0, ([] : List Int), x8, 22)))) else (some (0, ([] : List Int), x8, 22))) else (some (0, ([] : List Int), x8, 22))))) else (none)) else (none))) else (none)) else (none))
end
def listing_Read.f (k : Nat) (a0 : ByteArray) : Option (Int × List Int × Int × Int) := listing_Read.l0 k a0 0 ([] : List Int) 0
theorem listing_Read.mono_l : ∀ k, (∀ y0 y1 y2 y3, LeO (listing_Read.l0 k y0 y1 y2 y3) (listing_Read.l0 (k + 1) y0 y1 y2 y3)) ∧ (∀ y0 y1 y2 y3 y4 y5, LeO (listing_Read.j1 k y0 y1 y2 y3 y4 y5) (listing_Read.j1 (k + 1) y0 y1 y2 y3 y4 y5))
 | 0 => ⟨fun _ _ _ _ r h => by simp [listing_Read.l0] at h, fun _ _ _ _ _ _ r h => by simp [listing_Read.j1] at h⟩
 | k + 1 => by
  obtain ⟨ih0, ih1⟩ := listing_Read.mono_l k
  refine ⟨?_, ?_⟩
  ·
   intro y0 y1 y2 y3
   unfold listing_Read.l0
   repeat' first
   | (with_reducible exact ih0 _ _ _ _)
   | (with_reducible exact ih1 _ _ _ _ _ _)
   | (with_reducible exact listing_Line.mono _ _ _)
   | (with_reducible exact word_ParseHex.mono _ _)
   | (with_reducible exact LeO.refl _)
   | (with_reducible exact LeO.none _)
   | (with_reducible refine LeO.ite ?_ ?_)
   | (with_reducible refine LeO.bind ?_ (fun _ => ?_))
   | exact ih0 _ _ _ _
   | exact ih1 _ _ _ _ _ _
   | exact listing_Line.mono _ _ _
   | exact word_ParseHex.mono _ _
   | exact LeO.none _
   | refine LeO.ite ?_ ?_
   | refine LeO.bind ?_ (fun _ => ?_)
  ·
   intro y0 y1 y2 y3 y4 y5
   unfold listing_Read.j1
   repeat' first
   | (with_reducible exact ih0 _ _ _ _)
   | (with_reducible exact ih1 _ _ _ _ _ _)
   | (with_reducible exact listing_Line.mono _ _ _)
   | (with_reducible exact word_ParseHex.mono _ _)
   | (with_reducible exact LeO.refl _)
   | (with_reducible exact LeO.none _)
   | (with_reducible refine LeO.ite ?_ ?_)
   | (with_reducible refine LeO.bind ?_ (fun _ => ?_))
   | exact ih0 _ _ _ _
   | exact ih1 _ _ _ _ _ _
   | exact listing_Line.mono _ _ _
   | exact word_ParseHex.mono _ _
   | exact LeO.none _
   | refine LeO.ite ?_ ?_
   | refine LeO.bind ?_ (fun _ => ?_)
theorem listing_Read.mono : ∀ a0 k, LeO (listing_Read.f k a0) (listing_Read.f (k + 1) a0) := by
 intro a0 k
 obtain ⟨ih0, ih1⟩ := listing_Read.mono_l k
 unfold listing_Read.f
 repeat' first
   | (with_reducible exact ih0 _ _ _ _)
   | (with_reducible exact ih1 _ _ _ _ _ _)
   | (with_reducible exact listing_Line.mono _ _ _)
   | (with_reducible exact word_ParseHex.mono _ _)
   | (with_reducible exact LeO.refl _)
   | (with_reducible exact LeO.none _)
   | (with_reducible refine LeO.ite ?_ ?_)
   | (with_reducible refine LeO.bind ?_ (fun _ => ?_))
   | exact ih0 _ _ _ _
   | exact ih1 _ _ _ _ _ _
   | exact listing_Line.mono _ _ _
   | exact word_ParseHex.mono _ _
   | exact LeO.none _
   | refine LeO.ite ?_ ?_
   | refine LeO.bind ?_ (fun _ => ?_)
set_option maxHeartbeats 8000000 in
set_option maxRecDepth 100000 in
theorem listing_Read.calls (k : Nat) (a0 : ByteArray) (r1 : Int) (r2 : List Int) (r3 : Int) (r4 : Int) (w : World) (h : listing_Read.f k a0 = some (r1, r2, r3, r4)) :
  Calls Try.prog 13 #[.string a0] w fun e w' => ∃ v1_ : Value, e = .returned (.tuple #[.int .u32 r1, v1_, .int .i64 r3, .int .i64 r4]) ∧ Kd.R (Kd.int .u32) 22 w' w.heap.size (fun _ => True) v1_ r2 ∧ Below w.heap.size w w' := by
 have HB := Aside0.mk (Below.refl w.heap.size w)
 have H : (listing_Read.l0 k a0 0 ([] : List Int) 0) = some (r1, r2, r3, r4) := h
 clear h
 have H' := Aside0.mk H
 clear H
 go_enter Try.func13, Try.ntmps13
 go_wp2
 go_loopg [0, 6, 7, 8] k (fun kq v0 v6 v7 v8 w' => ∃ (x0_1 : ByteArray) (x6_1 : Int) (x7_1 : List Int) (x8_1 : Int), v0 = .string x0_1 ∧ v6 = .int .u32 x6_1 ∧ v8 = .int .i64 x8_1 ∧ Aside0 (listing_Read.l0 kq x0_1 x6_1 x7_1 x8_1 = some (r1, r2, r3, r4)) ∧ Aside0 (kq ≤ k) ∧ Aside0 (Kd.R (Kd.int .u32) 22 w' w.heap.size (fun _ => True) v7 x7_1) ∧ Aside0 (Below w.heap.size w w'))
 case atStart => exact ⟨(a0), (0), (([] : List Int)), (0), (by first | rfl | (simp; done) | (simp [*]; done)), (by first | rfl | (simp; done) | (simp [*]; done)), (by first | rfl | (simp; done) | (simp [*]; done)), H', ⟨Nat.le_refl _⟩, ⟨by first | exact Kd.R_nil _ _ _ _ _ | exact Kd.N_nil _ _ _ _ _ | exact Kd.V_nil _ _ _ _ _ | exact Kd.Q_nil _ _ _ _ _ | exact Kd.S_nil _ _ _ _ _⟩, ⟨by repeat (first | (with_reducible first | exact HB.out | apply below_alloc | apply pw_below_drewN | apply below_drew1) | exact HB.out)⟩⟩
 case round =>
  clear H'
  try clear c1
  obtain ⟨x0_1, x6_1, x7_1, x8_1, rfl, rfl, rfl, HA, HK1, HO_7, HB⟩ := hrel
  cases gk with
  | zero => exact absurd HA.out (by simp [listing_Read.l0])
  | succ k1 =>
   have H := HA.out
   clear HA
   simp only [listing_Read.l0] at H
   by_cases c2 : (x0_1.size : Int) > 0
   ·
    rw [if_pos c2] at H
    have c2b0 : decide (0 < (x0_1.size : Int)) = true := decide_eq_true c2
    have c2b1 : decide (0 < x0_1.size) = true := decide_eq_true (by omega)
    clear c2
    replace H := Option.bind_eq_some_iff.mp H
    obtain ⟨⟨t317, t318, t319⟩, A30, H⟩ := H
    replace H : (if t319 = true then (listing_Read.j1 k1 x6_1 x7_1 (wrap64 (x8_1 + 1)) t317 t318 (decide ((t317.size : Int) < 17))) else (listing_Read.j1 k1 x6_1 x7_1 (wrap64 (x8_1 + 1)) t317 t318 true)) = some (r1, r2, r3, r4) := H
    have A3 := Aside0.mk A30
    clear A30
    have HC4 := Aside0.mk H
    clear H
    go_upto_region 7 with (first | ((with_reducible refine gate_callee (f := 28) rfl ?_); refine goesL_ (some 23) rfl rfl Try.func28 (by kernel_rfl) rfl #[.string x0_1, .string (⟨#[10]⟩ : ByteArray)] rfl (by (try simp only [List.map_toArray, List.map_cons, List.map_nil]); first | done | rfl | (simp only [List.length_drop, List.length_take]; rfl)) ?_; (with_reducible refine (strings_Cut.calls x0_1 (⟨#[10]⟩ : ByteArray) t317 t318 t319 _ A3.out).mono ?_); rintro e w' ⟨rfl, ⟨nd, rfl⟩⟩; refine ⟨_, rfl, ?_⟩))
    (try simp only [Act.put, List.setIfInBounds_toArray, List.set_cons_zero, List.set_cons_succ])
    go_cut [33] (fun v33 wc => ∃ (kq : Nat) (x33_3 : Bool), v33 = .bool x33_3 ∧ Aside0 (listing_Read.j1 kq x6_1 x7_1 (wrap64 (x8_1 + 1)) t317 t318 x33_3 = some (r1, r2, r3, r4)) ∧ Aside0 (kq ≤ k1) ∧ Aside0 (Kd.R (Kd.int .u32) 22 wc w.heap.size (fun _ => True) u7 x7_1) ∧ Aside0 (Below w.heap.size w wc))
    case first =>
     have H := HC4.out
     clear HC4
     by_cases c5 : t319 = true
     ·
      subst c5
      have H1 : (listing_Read.j1 k1 x6_1 x7_1 (wrap64 (x8_1 + 1)) t317 t318 (decide ((t317.size : Int) < 17))) = some (r1, r2, r3, r4) := by rw [if_pos rfl] at H; exact H
      clear H
      have H := H1
      clear H1
      have H' := Aside0.mk H
      clear H
      go_wp2
      go_meet
      case rel => exact ⟨_, (decide ((t317.size : Int) < 17)), (by first | rfl | (simp; done) | (simp [*]; done)), H', ⟨by have := HK1.out; first | omega | exact Nat.le_refl _⟩, ⟨by (with_reducible repeat (first | apply Kd.R_alloc | apply Kd.R_drewN | apply Kd.R_drew)); exact HO_7.out⟩, ⟨by repeat (first | (with_reducible first | exact HB.out | apply below_alloc | apply pw_below_drewN | apply below_drew1) | exact HB.out)⟩⟩
     ·
      replace c5 := Bool.eq_false_iff.mpr c5
      subst c5
      have H1 : (listing_Read.j1 k1 x6_1 x7_1 (wrap64 (x8_1 + 1)) t317 t318 true) = some (r1, r2, r3, r4) := by rw [if_neg (show ¬ (false = true) by decide)] at H; exact H
      clear H
      have H := H1
      clear H1
      have H' := Aside0.mk H
      clear H
      go_wp2
      go_meet
      case rel => exact ⟨_, (true), (by first | rfl | (simp; done) | (simp [*]; done)), H', ⟨by have := HK1.out; first | omega | exact Nat.le_refl _⟩, ⟨by (with_reducible repeat (first | apply Kd.R_alloc | apply Kd.R_drewN | apply Kd.R_drew)); exact HO_7.out⟩, ⟨by repeat (first | (with_reducible first | exact HB.out | apply below_alloc | apply pw_below_drewN | apply below_drew1) | exact HB.out)⟩⟩
    case rest =>
     clear HC4
     (try clear c1); (try clear c2); (try clear c2b0); (try clear c2b1); (try clear p2); (try clear c5)
     obtain ⟨kq, x33_3, rfl, HA, HJ3, HO_7, HB⟩ := hcut
     cases kq with
     | zero => exact absurd HA.out (by simp [listing_Read.j1])
     | succ kj3 =>
      have H := HA.out
      clear HA
      simp only [listing_Read.j1] at H
      by_cases c6 : x33_3 = true
      ·
       subst c6
       have H1 : (some (0, ([] : List Int), (wrap64 (x8_1 + 1)), 22)) = some (r1, r2, r3, r4) := by rw [if_pos rfl] at H; exact H
       clear H
       have H := H1
       clear H1
       simp only [Option.some.injEq, Prod.mk.injEq] at H
       obtain ⟨rfl, rfl, rfl, rfl⟩ := H
       go_wp2
       refine bodyPost_ret (results_list (rs := [.tmp 2, .tmp 3, .tmp 4, .tmp 5]) rfl (by simp) (.tmp (.tmp (.tmp (.tmp .nil))))) rfl ?_
       exact ⟨_, by first | rfl | (simp [errW_none, errW_some] <;> rfl) | (simp [*, errW_none, errW_some] <;> rfl), by first | exact Kd.R_nil _ _ _ _ _ | exact Kd.N_nil _ _ _ _ _ | exact Kd.V_nil _ _ _ _ _ | exact Kd.Q_nil _ _ _ _ _ | exact Kd.S_nil _ _ _ _ _, by repeat (first | (with_reducible first | exact HB.out | apply below_alloc | apply pw_below_drewN | apply below_drew1) | exact HB.out)⟩
      ·
       replace c6 := Bool.eq_false_iff.mpr c6
       subst c6
       have H1 : (if 0 ≤ 8 then (if 8 ≤ (t317.size : Int) then ((word_ParseHex.f kj3 (t317.extract 0 8)).bind fun bt320 => (if 9 ≤ 17 then (if 17 ≤ (t317.size : Int) then ((word_ParseHex.f kj3 (t317.extract 9 17)).bind fun bt322 => (if (wrap64 (x8_1 + 1)) = 1 then (if bt320.2 = true then (if bt322.2 = true then ((listing_Line.f kj3 ((bt320.1 + ((wrap64 (4 * (x7_1.length : Int))) % 4294967296)) % 4294967296) bt322.1).bind fun t324 => (if t317.toList = t324.toList then (if x7_1.length < 35184372088832 then (listing_Read.l0 kj3 t318 bt320.1 (x7_1 ++ [bt322.1]) (wrap64 (x8_1 + 1))) else (none)) else (some (0, ([] : List Int), (wrap64 (x8_1 + 1)), 22)))) else (some (0, ([] : List Int), (wrap64 (x8_1 + 1)), 22))) else (some (0, ([] : List Int), (wrap64 (x8_1 + 1)), 22))) else (if bt320.2 = true then (if bt322.2 = true then ((listing_Line.f kj3 ((x6_1 + ((wrap64 (4 * (x7_1.length : Int))) % 4294967296)) % 4294967296) bt322.1).bind fun t328 => (if t317.toList = t328.toList then (if x7_1.length < 35184372088832 then (listing_Read.l0 kj3 t318 x6_1 (x7_1 ++ [bt322.1]) (wrap64 (x8_1 + 1))) else (none)) else (some (0, ([] : List Int), (wrap64 (x8_1 + 1)), 22)))) else (some (0, ([] : List Int), (wrap64 (x8_1 + 1)), 22))) else (some (0, ([] : List Int), (wrap64 (x8_1 + 1)), 22))))) else (none)) else (none))) else (none)) else (none)) = some (r1, r2, r3, r4) := by rw [if_neg (show ¬ (false = true) by decide)] at H; exact H
       clear H
       have H := H1
       clear H1
       by_cases c7 : 0 ≤ 8
       ·
        rw [if_pos c7] at H
        have c7b0 := eq_true c7
        have c7b1 : decide (0 ≤ 8) = true := decide_eq_true c7
        clear c7
        by_cases c8 : 8 ≤ (t317.size : Int)
        ·
         rw [if_pos c8] at H
         have c8b0 := eq_true c8
         have c8b1 : decide (8 ≤ (t317.size : Int)) = true := decide_eq_true c8
         clear c8
         replace H := Option.bind_eq_some_iff.mp H
         obtain ⟨⟨t320, t321⟩, A90, H⟩ := H
         replace H : (if 9 ≤ 17 then (if 17 ≤ (t317.size : Int) then ((word_ParseHex.f kj3 (t317.extract 9 17)).bind fun bt322 => (if (wrap64 (x8_1 + 1)) = 1 then (if t321 = true then (if bt322.2 = true then ((listing_Line.f kj3 ((t320 + ((wrap64 (4 * (x7_1.length : Int))) % 4294967296)) % 4294967296) bt322.1).bind fun t324 => (if t317.toList = t324.toList then (if x7_1.length < 35184372088832 then (listing_Read.l0 kj3 t318 t320 (x7_1 ++ [bt322.1]) (wrap64 (x8_1 + 1))) else (none)) else (some (0, ([] : List Int), (wrap64 (x8_1 + 1)), 22)))) else (some (0, ([] : List Int), (wrap64 (x8_1 + 1)), 22))) else (some (0, ([] : List Int), (wrap64 (x8_1 + 1)), 22))) else (if t321 = true then (if bt322.2 = true then ((listing_Line.f kj3 ((x6_1 + ((wrap64 (4 * (x7_1.length : Int))) % 4294967296)) % 4294967296) bt322.1).bind fun t328 => (if t317.toList = t328.toList then (if x7_1.length < 35184372088832 then (listing_Read.l0 kj3 t318 x6_1 (x7_1 ++ [bt322.1]) (wrap64 (x8_1 + 1))) else (none)) else (some (0, ([] : List Int), (wrap64 (x8_1 + 1)), 22)))) else (some (0, ([] : List Int), (wrap64 (x8_1 + 1)), 22))) else (some (0, ([] : List Int), (wrap64 (x8_1 + 1)), 22))))) else (none)) else (none)) = some (r1, r2, r3, r4) := H
         have A9 := Aside0.mk A90
         clear A90
         by_cases c10 : 9 ≤ 17
         ·
          rw [if_pos c10] at H
          have c10b0 := eq_true c10
          have c10b1 : decide (9 ≤ 17) = true := decide_eq_true c10
          clear c10
          by_cases c11 : 17 ≤ (t317.size : Int)
          ·
           rw [if_pos c11] at H
           have c11b0 := eq_true c11
           have c11b1 : decide (17 ≤ (t317.size : Int)) = true := decide_eq_true c11
           clear c11
           replace H := Option.bind_eq_some_iff.mp H
           obtain ⟨⟨t322, t323⟩, A120, H⟩ := H
           replace H : (if (wrap64 (x8_1 + 1)) = 1 then (if t321 = true then (if t323 = true then ((listing_Line.f kj3 ((t320 + ((wrap64 (4 * (x7_1.length : Int))) % 4294967296)) % 4294967296) t322).bind fun t324 => (if t317.toList = t324.toList then (if x7_1.length < 35184372088832 then (listing_Read.l0 kj3 t318 t320 (x7_1 ++ [t322]) (wrap64 (x8_1 + 1))) else (none)) else (some (0, ([] : List Int), (wrap64 (x8_1 + 1)), 22)))) else (some (0, ([] : List Int), (wrap64 (x8_1 + 1)), 22))) else (some (0, ([] : List Int), (wrap64 (x8_1 + 1)), 22))) else (if t321 = true then (if t323 = true then ((listing_Line.f kj3 ((x6_1 + ((wrap64 (4 * (x7_1.length : Int))) % 4294967296)) % 4294967296) t322).bind fun t328 => (if t317.toList = t328.toList then (if x7_1.length < 35184372088832 then (listing_Read.l0 kj3 t318 x6_1 (x7_1 ++ [t322]) (wrap64 (x8_1 + 1))) else (none)) else (some (0, ([] : List Int), (wrap64 (x8_1 + 1)), 22)))) else (some (0, ([] : List Int), (wrap64 (x8_1 + 1)), 22))) else (some (0, ([] : List Int), (wrap64 (x8_1 + 1)), 22)))) = some (r1, r2, r3, r4) := H
           have A12 := Aside0.mk A120
           clear A120
           by_cases c13 : (wrap64 (x8_1 + 1)) = 1
           ·
            rw [if_pos c13] at H
            have c13b0 : ((wrap64 (x8_1 + 1)) == 1) = true := beq_iff_eq.mpr c13
            have c13b1 : ((wrap64 (x8_1 + 1)) != 1) = false := bne_eq_false_iff_eq.mpr c13
            clear c13
            by_cases c14 : t321 = true
            ·
             subst c14
             have H1 : (if t323 = true then ((listing_Line.f kj3 ((t320 + ((wrap64 (4 * (x7_1.length : Int))) % 4294967296)) % 4294967296) t322).bind fun t324 => (if t317.toList = t324.toList then (if x7_1.length < 35184372088832 then (listing_Read.l0 kj3 t318 t320 (x7_1 ++ [t322]) (wrap64 (x8_1 + 1))) else (none)) else (some (0, ([] : List Int), (wrap64 (x8_1 + 1)), 22)))) else (some (0, ([] : List Int), (wrap64 (x8_1 + 1)), 22))) = some (r1, r2, r3, r4) := by rw [if_pos rfl] at H; exact H
             clear H
             have H := H1
             clear H1
             by_cases c15 : t323 = true
             ·
              subst c15
              have H1 : ((listing_Line.f kj3 ((t320 + ((wrap64 (4 * (x7_1.length : Int))) % 4294967296)) % 4294967296) t322).bind fun t324 => (if t317.toList = t324.toList then (if x7_1.length < 35184372088832 then (listing_Read.l0 kj3 t318 t320 (x7_1 ++ [t322]) (wrap64 (x8_1 + 1))) else (none)) else (some (0, ([] : List Int), (wrap64 (x8_1 + 1)), 22)))) = some (r1, r2, r3, r4) := by rw [if_pos rfl] at H; exact H
              clear H
              have H := H1
              clear H1
              replace H := Option.bind_eq_some_iff.mp H
              obtain ⟨t324, A160, H⟩ := H
              replace H : (if t317.toList = t324.toList then (if x7_1.length < 35184372088832 then (listing_Read.l0 kj3 t318 t320 (x7_1 ++ [t322]) (wrap64 (x8_1 + 1))) else (none)) else (some (0, ([] : List Int), (wrap64 (x8_1 + 1)), 22))) = some (r1, r2, r3, r4) := H
              have A16 := Aside0.mk A160
              clear A160
              by_cases c17 : t317.toList = t324.toList
              ·
               rw [if_pos c17] at H
               have c17b0 : (t317.toList == t324.toList) = true := beq_iff_eq.mpr c17
               have c17b1 : (t317.toList != t324.toList) = false := bne_eq_false_iff_eq.mpr c17
               clear c17
               by_cases c18 : x7_1.length < 35184372088832
               ·
                rw [if_pos c18] at H
                have LMc18 := Aside0.mk c18
                clear c18
                obtain ⟨y325, hy325⟩ : ∃ y_ : List Int, y_ = (x7_1 ++ [t322]) := ⟨_, rfl⟩
                replace H : (listing_Read.l0 kj3 t318 t320 y325 (wrap64 (x8_1 + 1))) = some (r1, r2, r3, r4) := by first | (rw [hy325]; with_reducible exact H) | (have H2_ := (Option.bind_some _ _).symm.trans H; rw [hy325]; with_reducible exact H2_) | (have H2_ := (Option.bind_some _ _).symm.trans H; with_reducible exact H2_) | with_reducible exact H | (rw [hy325]; exact H) | exact H
                have Ny325 := Aside0.mk hy325
                clear hy325
                have H' := Aside0.mk H
                clear H
                go_wp2_with (first | ((with_reducible refine gate_callee (f := 29) rfl ?_); refine goesL_ (some 38) rfl rfl Try.func29 (by kernel_rfl) rfl #[.string (t317.extract 0 8)] rfl (by (try simp only [List.map_toArray, List.map_cons, List.map_nil]); first | done | rfl | (simp only [List.length_drop, List.length_take]; rfl)) ?_; (with_reducible refine (word_ParseHex.calls kj3 (t317.extract 0 8) t320 true _ A9.out).mono ?_); rintro e w' ⟨rfl, ⟨nd, rfl⟩⟩; refine ⟨_, rfl, ?_⟩) | ((with_reducible refine gate_callee (f := 29) rfl ?_); refine goesL_ (some 44) rfl rfl Try.func29 (by kernel_rfl) rfl #[.string (t317.extract 9 17)] rfl (by (try simp only [List.map_toArray, List.map_cons, List.map_nil]); first | done | rfl | (simp only [List.length_drop, List.length_take]; rfl)) ?_; (with_reducible refine (word_ParseHex.calls kj3 (t317.extract 9 17) t322 true _ A12.out).mono ?_); rintro e w' ⟨rfl, ⟨nd, rfl⟩⟩; refine ⟨_, rfl, ?_⟩; obtain ⟨Ao19, co19, eo19⟩ := Kd.R_slice HO_7.out; subst eo19) | (go_at_call 9; (with_reducible refine (listing_Line.calls kj3 ((t320 + wrap64 (4 * (x7_1.length : Int))) % 4294967296) t322 t324 _ (by have h_ := A16.out; rw [show ((t320 + ((wrap64 (4 * (x7_1.length : Int))) % 4294967296)) % 4294967296) = ((t320 + wrap64 (4 * (x7_1.length : Int))) % 4294967296) by omega] at h_; exact h_)).mono ?_); rintro e w20 ⟨rfl, hb⟩; have n0_ := Aside0.mk (Kd.R_below (by (with_reducible repeat (first | apply Kd.R_alloc | apply Kd.R_drewN | apply Kd.R_drew)); exact HO_7.out) hb); have n1_ := Aside0.mk (below_step (by repeat (first | (with_reducible first | exact HB.out | apply below_alloc | apply pw_below_drewN | apply below_drew1) | exact HB.out)) hb); clear HO_7; clear HB; have HO_7 := n0_; have HB := n1_; clear n0_ n1_; (try clear hb); (try clear hb2); (try clear hk); (try clear hi)) | ((with_reducible refine gate_builtin (b := .append) (xs := #[.tmp 69, .tmp 71]) rfl ?_); (try (refine gate_guard (by rfl) ?_; dsimp only)); at_builtin; refine Kd.R_append (Kd.int .u32) (w0 := w) w.heap.size rfl (.tmp 69) (.tmp 71) 30 22 (.int .u32 0) 4 rfl Try.underlying30 info22 rfl (by decide) (by omega) (.slice Ao19 x7_1.length co19) x7_1 t322 [.int .u32 t322] (fun _ => True) (fun _ => False) rfl rfl ?aP (fun _ hk => hk.elim) ?aF ?aO ?aB ?aS ?aL ?_; (case aP => exact rfl); (case aB => exact (by repeat (first | (with_reducible first | exact HB.out | apply below_alloc | apply pw_below_drewN | apply below_drew1) | exact HB.out))); (case aF => exact (fun _ _ => trivial)); (case aO => exact (by (with_reducible repeat (first | apply Kd.R_alloc | apply Kd.R_drewN | apply Kd.R_drew)); exact HO_7.out)); (case aS => exact (below_size (by repeat (first | (with_reducible first | exact HB.out | apply below_alloc | apply pw_below_drewN | apply below_drew1) | exact HB.out)))); (case aL => have := LMc18.out; omega); intro v326 w21 ho hb hg hat; rw [← Ny325.out] at ho; have n0_ := Aside0.mk (hb); have n1_ := Aside0.mk (ho); clear HB; clear HO_7; have HB := n0_; have HO327 := n1_; clear n0_ n1_; clear ho hb hg hat))
                go_roundg kj3
                case measure => have := HK1.out; have := HJ3.out; omega
                case rel => exact ⟨(t318), (t320), (y325), ((wrap64 (x8_1 + 1))), (by first | rfl | (simp; done) | (simp [*]; done)), (by first | rfl | (simp; done) | (simp [*]; done)), (by first | rfl | (simp; done) | (simp [*]; done)), H', ⟨by have := HK1.out; have := HJ3.out; omega⟩, ⟨by (with_reducible repeat (first | apply Kd.R_alloc | apply Kd.R_drewN | apply Kd.R_drew)); exact HO327.out⟩, ⟨by repeat (first | (with_reducible first | exact HB.out | apply below_alloc | apply pw_below_drewN | apply below_drew1) | exact HB.out)⟩⟩
               ·
                rw [if_neg c18] at H
                exact absurd H (by simp)
              ·
               rw [if_neg c17] at H
               have c17b0 : (t317.toList == t324.toList) = false := beq_eq_false_iff_ne.mpr c17
               have c17b1 : (t317.toList != t324.toList) = true := bne_iff_ne.mpr c17
               simp only [Option.some.injEq, Prod.mk.injEq] at H
               obtain ⟨rfl, rfl, rfl, rfl⟩ := H
               go_wp2_with (first | ((with_reducible refine gate_callee (f := 29) rfl ?_); refine goesL_ (some 38) rfl rfl Try.func29 (by kernel_rfl) rfl #[.string (t317.extract 0 8)] rfl (by (try simp only [List.map_toArray, List.map_cons, List.map_nil]); first | done | rfl | (simp only [List.length_drop, List.length_take]; rfl)) ?_; (with_reducible refine (word_ParseHex.calls kj3 (t317.extract 0 8) t320 true _ A9.out).mono ?_); rintro e w' ⟨rfl, ⟨nd, rfl⟩⟩; refine ⟨_, rfl, ?_⟩) | ((with_reducible refine gate_callee (f := 29) rfl ?_); refine goesL_ (some 44) rfl rfl Try.func29 (by kernel_rfl) rfl #[.string (t317.extract 9 17)] rfl (by (try simp only [List.map_toArray, List.map_cons, List.map_nil]); first | done | rfl | (simp only [List.length_drop, List.length_take]; rfl)) ?_; (with_reducible refine (word_ParseHex.calls kj3 (t317.extract 9 17) t322 true _ A12.out).mono ?_); rintro e w' ⟨rfl, ⟨nd, rfl⟩⟩; refine ⟨_, rfl, ?_⟩; obtain ⟨Ao22, co22, eo22⟩ := Kd.R_slice HO_7.out; subst eo22) | (go_at_call 9; (with_reducible refine (listing_Line.calls kj3 ((t320 + wrap64 (4 * (x7_1.length : Int))) % 4294967296) t322 t324 _ (by have h_ := A16.out; rw [show ((t320 + ((wrap64 (4 * (x7_1.length : Int))) % 4294967296)) % 4294967296) = ((t320 + wrap64 (4 * (x7_1.length : Int))) % 4294967296) by omega] at h_; exact h_)).mono ?_); rintro e w23 ⟨rfl, hb⟩; have n0_ := Aside0.mk (Kd.R_below (by (with_reducible repeat (first | apply Kd.R_alloc | apply Kd.R_drewN | apply Kd.R_drew)); exact HO_7.out) hb); have n1_ := Aside0.mk (below_step (by repeat (first | (with_reducible first | exact HB.out | apply below_alloc | apply pw_below_drewN | apply below_drew1) | exact HB.out)) hb); clear HO_7; clear HB; have HO_7 := n0_; have HB := n1_; clear n0_ n1_; (try clear hb); (try clear hb2); (try clear hk); (try clear hi)))
               refine bodyPost_ret (results_list (rs := [.tmp 2, .tmp 3, .tmp 4, .tmp 5]) rfl (by simp) (.tmp (.tmp (.tmp (.tmp .nil))))) rfl ?_
               exact ⟨_, by first | rfl | (simp [errW_none, errW_some] <;> rfl) | (simp [*, errW_none, errW_some] <;> rfl), by first | exact Kd.R_nil _ _ _ _ _ | exact Kd.N_nil _ _ _ _ _ | exact Kd.V_nil _ _ _ _ _ | exact Kd.Q_nil _ _ _ _ _ | exact Kd.S_nil _ _ _ _ _, by repeat (first | (with_reducible first | exact HB.out | apply below_alloc | apply pw_below_drewN | apply below_drew1) | exact HB.out)⟩
             ·
              replace c15 := Bool.eq_false_iff.mpr c15
              subst c15
              have H1 : (some (0, ([] : List Int), (wrap64 (x8_1 + 1)), 22)) = some (r1, r2, r3, r4) := by rw [if_neg (show ¬ (false = true) by decide)] at H; exact H
              clear H
              have H := H1
              clear H1
              simp only [Option.some.injEq, Prod.mk.injEq] at H
              obtain ⟨rfl, rfl, rfl, rfl⟩ := H
              go_wp2_with (first | ((with_reducible refine gate_callee (f := 29) rfl ?_); refine goesL_ (some 38) rfl rfl Try.func29 (by kernel_rfl) rfl #[.string (t317.extract 0 8)] rfl (by (try simp only [List.map_toArray, List.map_cons, List.map_nil]); first | done | rfl | (simp only [List.length_drop, List.length_take]; rfl)) ?_; (with_reducible refine (word_ParseHex.calls kj3 (t317.extract 0 8) t320 true _ A9.out).mono ?_); rintro e w' ⟨rfl, ⟨nd, rfl⟩⟩; refine ⟨_, rfl, ?_⟩) | ((with_reducible refine gate_callee (f := 29) rfl ?_); refine goesL_ (some 44) rfl rfl Try.func29 (by kernel_rfl) rfl #[.string (t317.extract 9 17)] rfl (by (try simp only [List.map_toArray, List.map_cons, List.map_nil]); first | done | rfl | (simp only [List.length_drop, List.length_take]; rfl)) ?_; (with_reducible refine (word_ParseHex.calls kj3 (t317.extract 9 17) t322 false _ A12.out).mono ?_); rintro e w' ⟨rfl, ⟨nd, rfl⟩⟩; refine ⟨_, rfl, ?_⟩))
              refine bodyPost_ret (results_list (rs := [.tmp 2, .tmp 3, .tmp 4, .tmp 5]) rfl (by simp) (.tmp (.tmp (.tmp (.tmp .nil))))) rfl ?_
              exact ⟨_, by first | rfl | (simp [errW_none, errW_some] <;> rfl) | (simp [*, errW_none, errW_some] <;> rfl), by first | exact Kd.R_nil _ _ _ _ _ | exact Kd.N_nil _ _ _ _ _ | exact Kd.V_nil _ _ _ _ _ | exact Kd.Q_nil _ _ _ _ _ | exact Kd.S_nil _ _ _ _ _, by repeat (first | (with_reducible first | exact HB.out | apply below_alloc | apply pw_below_drewN | apply below_drew1) | exact HB.out)⟩
            ·
             replace c14 := Bool.eq_false_iff.mpr c14
             subst c14
             have H1 : (some (0, ([] : List Int), (wrap64 (x8_1 + 1)), 22)) = some (r1, r2, r3, r4) := by rw [if_neg (show ¬ (false = true) by decide)] at H; exact H
             clear H
             have H := H1
             clear H1
             simp only [Option.some.injEq, Prod.mk.injEq] at H
             obtain ⟨rfl, rfl, rfl, rfl⟩ := H
             go_wp2_with (first | ((with_reducible refine gate_callee (f := 29) rfl ?_); refine goesL_ (some 38) rfl rfl Try.func29 (by kernel_rfl) rfl #[.string (t317.extract 0 8)] rfl (by (try simp only [List.map_toArray, List.map_cons, List.map_nil]); first | done | rfl | (simp only [List.length_drop, List.length_take]; rfl)) ?_; (with_reducible refine (word_ParseHex.calls kj3 (t317.extract 0 8) t320 false _ A9.out).mono ?_); rintro e w' ⟨rfl, ⟨nd, rfl⟩⟩; refine ⟨_, rfl, ?_⟩) | ((with_reducible refine gate_callee (f := 29) rfl ?_); refine goesL_ (some 44) rfl rfl Try.func29 (by kernel_rfl) rfl #[.string (t317.extract 9 17)] rfl (by (try simp only [List.map_toArray, List.map_cons, List.map_nil]); first | done | rfl | (simp only [List.length_drop, List.length_take]; rfl)) ?_; (with_reducible refine (word_ParseHex.calls kj3 (t317.extract 9 17) t322 t323 _ A12.out).mono ?_); rintro e w' ⟨rfl, ⟨nd, rfl⟩⟩; refine ⟨_, rfl, ?_⟩))
             refine bodyPost_ret (results_list (rs := [.tmp 2, .tmp 3, .tmp 4, .tmp 5]) rfl (by simp) (.tmp (.tmp (.tmp (.tmp .nil))))) rfl ?_
             exact ⟨_, by first | rfl | (simp [errW_none, errW_some] <;> rfl) | (simp [*, errW_none, errW_some] <;> rfl), by first | exact Kd.R_nil _ _ _ _ _ | exact Kd.N_nil _ _ _ _ _ | exact Kd.V_nil _ _ _ _ _ | exact Kd.Q_nil _ _ _ _ _ | exact Kd.S_nil _ _ _ _ _, by repeat (first | (with_reducible first | exact HB.out | apply below_alloc | apply pw_below_drewN | apply below_drew1) | exact HB.out)⟩
           ·
            rw [if_neg c13] at H
            have c13b0 : ((wrap64 (x8_1 + 1)) == 1) = false := beq_eq_false_iff_ne.mpr c13
            have c13b1 : ((wrap64 (x8_1 + 1)) != 1) = true := bne_iff_ne.mpr c13
            by_cases c24 : t321 = true
            ·
             subst c24
             have H1 : (if t323 = true then ((listing_Line.f kj3 ((x6_1 + ((wrap64 (4 * (x7_1.length : Int))) % 4294967296)) % 4294967296) t322).bind fun t328 => (if t317.toList = t328.toList then (if x7_1.length < 35184372088832 then (listing_Read.l0 kj3 t318 x6_1 (x7_1 ++ [t322]) (wrap64 (x8_1 + 1))) else (none)) else (some (0, ([] : List Int), (wrap64 (x8_1 + 1)), 22)))) else (some (0, ([] : List Int), (wrap64 (x8_1 + 1)), 22))) = some (r1, r2, r3, r4) := by rw [if_pos rfl] at H; exact H
             clear H
             have H := H1
             clear H1
             by_cases c25 : t323 = true
             ·
              subst c25
              have H1 : ((listing_Line.f kj3 ((x6_1 + ((wrap64 (4 * (x7_1.length : Int))) % 4294967296)) % 4294967296) t322).bind fun t328 => (if t317.toList = t328.toList then (if x7_1.length < 35184372088832 then (listing_Read.l0 kj3 t318 x6_1 (x7_1 ++ [t322]) (wrap64 (x8_1 + 1))) else (none)) else (some (0, ([] : List Int), (wrap64 (x8_1 + 1)), 22)))) = some (r1, r2, r3, r4) := by rw [if_pos rfl] at H; exact H
              clear H
              have H := H1
              clear H1
              replace H := Option.bind_eq_some_iff.mp H
              obtain ⟨t328, A260, H⟩ := H
              replace H : (if t317.toList = t328.toList then (if x7_1.length < 35184372088832 then (listing_Read.l0 kj3 t318 x6_1 (x7_1 ++ [t322]) (wrap64 (x8_1 + 1))) else (none)) else (some (0, ([] : List Int), (wrap64 (x8_1 + 1)), 22))) = some (r1, r2, r3, r4) := H
              have A26 := Aside0.mk A260
              clear A260
              by_cases c27 : t317.toList = t328.toList
              ·
               rw [if_pos c27] at H
               have c27b0 : (t317.toList == t328.toList) = true := beq_iff_eq.mpr c27
               have c27b1 : (t317.toList != t328.toList) = false := bne_eq_false_iff_eq.mpr c27
               clear c27
               by_cases c28 : x7_1.length < 35184372088832
               ·
                rw [if_pos c28] at H
                have LMc28 := Aside0.mk c28
                clear c28
                obtain ⟨y329, hy329⟩ : ∃ y_ : List Int, y_ = (x7_1 ++ [t322]) := ⟨_, rfl⟩
                replace H : (listing_Read.l0 kj3 t318 x6_1 y329 (wrap64 (x8_1 + 1))) = some (r1, r2, r3, r4) := by first | (rw [hy329]; with_reducible exact H) | (have H2_ := (Option.bind_some _ _).symm.trans H; rw [hy329]; with_reducible exact H2_) | (have H2_ := (Option.bind_some _ _).symm.trans H; with_reducible exact H2_) | with_reducible exact H | (rw [hy329]; exact H) | exact H
                have Ny329 := Aside0.mk hy329
                clear hy329
                have H' := Aside0.mk H
                clear H
                go_wp2_with (first | ((with_reducible refine gate_callee (f := 29) rfl ?_); refine goesL_ (some 38) rfl rfl Try.func29 (by kernel_rfl) rfl #[.string (t317.extract 0 8)] rfl (by (try simp only [List.map_toArray, List.map_cons, List.map_nil]); first | done | rfl | (simp only [List.length_drop, List.length_take]; rfl)) ?_; (with_reducible refine (word_ParseHex.calls kj3 (t317.extract 0 8) t320 true _ A9.out).mono ?_); rintro e w' ⟨rfl, ⟨nd, rfl⟩⟩; refine ⟨_, rfl, ?_⟩) | ((with_reducible refine gate_callee (f := 29) rfl ?_); refine goesL_ (some 44) rfl rfl Try.func29 (by kernel_rfl) rfl #[.string (t317.extract 9 17)] rfl (by (try simp only [List.map_toArray, List.map_cons, List.map_nil]); first | done | rfl | (simp only [List.length_drop, List.length_take]; rfl)) ?_; (with_reducible refine (word_ParseHex.calls kj3 (t317.extract 9 17) t322 true _ A12.out).mono ?_); rintro e w' ⟨rfl, ⟨nd, rfl⟩⟩; refine ⟨_, rfl, ?_⟩; obtain ⟨Ao29, co29, eo29⟩ := Kd.R_slice HO_7.out; subst eo29) | (go_at_call 9; (with_reducible refine (listing_Line.calls kj3 ((x6_1 + wrap64 (4 * (x7_1.length : Int))) % 4294967296) t322 t328 _ (by have h_ := A26.out; rw [show ((x6_1 + ((wrap64 (4 * (x7_1.length : Int))) % 4294967296)) % 4294967296) = ((x6_1 + wrap64 (4 * (x7_1.length : Int))) % 4294967296) by omega] at h_; exact h_)).mono ?_); rintro e w30 ⟨rfl, hb⟩; have n0_ := Aside0.mk (Kd.R_below (by (with_reducible repeat (first | apply Kd.R_alloc | apply Kd.R_drewN | apply Kd.R_drew)); exact HO_7.out) hb); have n1_ := Aside0.mk (below_step (by repeat (first | (with_reducible first | exact HB.out | apply below_alloc | apply pw_below_drewN | apply below_drew1) | exact HB.out)) hb); clear HO_7; clear HB; have HO_7 := n0_; have HB := n1_; clear n0_ n1_; (try clear hb); (try clear hb2); (try clear hk); (try clear hi)) | ((with_reducible refine gate_builtin (b := .append) (xs := #[.tmp 69, .tmp 71]) rfl ?_); (try (refine gate_guard (by rfl) ?_; dsimp only)); at_builtin; refine Kd.R_append (Kd.int .u32) (w0 := w) w.heap.size rfl (.tmp 69) (.tmp 71) 30 22 (.int .u32 0) 4 rfl Try.underlying30 info22 rfl (by decide) (by omega) (.slice Ao29 x7_1.length co29) x7_1 t322 [.int .u32 t322] (fun _ => True) (fun _ => False) rfl rfl ?aP (fun _ hk => hk.elim) ?aF ?aO ?aB ?aS ?aL ?_; (case aP => exact rfl); (case aB => exact (by repeat (first | (with_reducible first | exact HB.out | apply below_alloc | apply pw_below_drewN | apply below_drew1) | exact HB.out))); (case aF => exact (fun _ _ => trivial)); (case aO => exact (by (with_reducible repeat (first | apply Kd.R_alloc | apply Kd.R_drewN | apply Kd.R_drew)); exact HO_7.out)); (case aS => exact (below_size (by repeat (first | (with_reducible first | exact HB.out | apply below_alloc | apply pw_below_drewN | apply below_drew1) | exact HB.out)))); (case aL => have := LMc28.out; omega); intro v330 w31 ho hb hg hat; rw [← Ny329.out] at ho; have n0_ := Aside0.mk (hb); have n1_ := Aside0.mk (ho); clear HB; clear HO_7; have HB := n0_; have HO331 := n1_; clear n0_ n1_; clear ho hb hg hat))
                go_roundg kj3
                case measure => have := HK1.out; have := HJ3.out; omega
                case rel => exact ⟨(t318), (x6_1), (y329), ((wrap64 (x8_1 + 1))), (by first | rfl | (simp; done) | (simp [*]; done)), (by first | rfl | (simp; done) | (simp [*]; done)), (by first | rfl | (simp; done) | (simp [*]; done)), H', ⟨by have := HK1.out; have := HJ3.out; omega⟩, ⟨by (with_reducible repeat (first | apply Kd.R_alloc | apply Kd.R_drewN | apply Kd.R_drew)); exact HO331.out⟩, ⟨by repeat (first | (with_reducible first | exact HB.out | apply below_alloc | apply pw_below_drewN | apply below_drew1) | exact HB.out)⟩⟩
               ·
                rw [if_neg c28] at H
                exact absurd H (by simp)
              ·
               rw [if_neg c27] at H
               have c27b0 : (t317.toList == t328.toList) = false := beq_eq_false_iff_ne.mpr c27
               have c27b1 : (t317.toList != t328.toList) = true := bne_iff_ne.mpr c27
               simp only [Option.some.injEq, Prod.mk.injEq] at H
               obtain ⟨rfl, rfl, rfl, rfl⟩ := H
               go_wp2_with (first | ((with_reducible refine gate_callee (f := 29) rfl ?_); refine goesL_ (some 38) rfl rfl Try.func29 (by kernel_rfl) rfl #[.string (t317.extract 0 8)] rfl (by (try simp only [List.map_toArray, List.map_cons, List.map_nil]); first | done | rfl | (simp only [List.length_drop, List.length_take]; rfl)) ?_; (with_reducible refine (word_ParseHex.calls kj3 (t317.extract 0 8) t320 true _ A9.out).mono ?_); rintro e w' ⟨rfl, ⟨nd, rfl⟩⟩; refine ⟨_, rfl, ?_⟩) | ((with_reducible refine gate_callee (f := 29) rfl ?_); refine goesL_ (some 44) rfl rfl Try.func29 (by kernel_rfl) rfl #[.string (t317.extract 9 17)] rfl (by (try simp only [List.map_toArray, List.map_cons, List.map_nil]); first | done | rfl | (simp only [List.length_drop, List.length_take]; rfl)) ?_; (with_reducible refine (word_ParseHex.calls kj3 (t317.extract 9 17) t322 true _ A12.out).mono ?_); rintro e w' ⟨rfl, ⟨nd, rfl⟩⟩; refine ⟨_, rfl, ?_⟩; obtain ⟨Ao32, co32, eo32⟩ := Kd.R_slice HO_7.out; subst eo32) | (go_at_call 9; (with_reducible refine (listing_Line.calls kj3 ((x6_1 + wrap64 (4 * (x7_1.length : Int))) % 4294967296) t322 t328 _ (by have h_ := A26.out; rw [show ((x6_1 + ((wrap64 (4 * (x7_1.length : Int))) % 4294967296)) % 4294967296) = ((x6_1 + wrap64 (4 * (x7_1.length : Int))) % 4294967296) by omega] at h_; exact h_)).mono ?_); rintro e w33 ⟨rfl, hb⟩; have n0_ := Aside0.mk (Kd.R_below (by (with_reducible repeat (first | apply Kd.R_alloc | apply Kd.R_drewN | apply Kd.R_drew)); exact HO_7.out) hb); have n1_ := Aside0.mk (below_step (by repeat (first | (with_reducible first | exact HB.out | apply below_alloc | apply pw_below_drewN | apply below_drew1) | exact HB.out)) hb); clear HO_7; clear HB; have HO_7 := n0_; have HB := n1_; clear n0_ n1_; (try clear hb); (try clear hb2); (try clear hk); (try clear hi)))
               refine bodyPost_ret (results_list (rs := [.tmp 2, .tmp 3, .tmp 4, .tmp 5]) rfl (by simp) (.tmp (.tmp (.tmp (.tmp .nil))))) rfl ?_
               exact ⟨_, by first | rfl | (simp [errW_none, errW_some] <;> rfl) | (simp [*, errW_none, errW_some] <;> rfl), by first | exact Kd.R_nil _ _ _ _ _ | exact Kd.N_nil _ _ _ _ _ | exact Kd.V_nil _ _ _ _ _ | exact Kd.Q_nil _ _ _ _ _ | exact Kd.S_nil _ _ _ _ _, by repeat (first | (with_reducible first | exact HB.out | apply below_alloc | apply pw_below_drewN | apply below_drew1) | exact HB.out)⟩
             ·
              replace c25 := Bool.eq_false_iff.mpr c25
              subst c25
              have H1 : (some (0, ([] : List Int), (wrap64 (x8_1 + 1)), 22)) = some (r1, r2, r3, r4) := by rw [if_neg (show ¬ (false = true) by decide)] at H; exact H
              clear H
              have H := H1
              clear H1
              simp only [Option.some.injEq, Prod.mk.injEq] at H
              obtain ⟨rfl, rfl, rfl, rfl⟩ := H
              go_wp2_with (first | ((with_reducible refine gate_callee (f := 29) rfl ?_); refine goesL_ (some 38) rfl rfl Try.func29 (by kernel_rfl) rfl #[.string (t317.extract 0 8)] rfl (by (try simp only [List.map_toArray, List.map_cons, List.map_nil]); first | done | rfl | (simp only [List.length_drop, List.length_take]; rfl)) ?_; (with_reducible refine (word_ParseHex.calls kj3 (t317.extract 0 8) t320 true _ A9.out).mono ?_); rintro e w' ⟨rfl, ⟨nd, rfl⟩⟩; refine ⟨_, rfl, ?_⟩) | ((with_reducible refine gate_callee (f := 29) rfl ?_); refine goesL_ (some 44) rfl rfl Try.func29 (by kernel_rfl) rfl #[.string (t317.extract 9 17)] rfl (by (try simp only [List.map_toArray, List.map_cons, List.map_nil]); first | done | rfl | (simp only [List.length_drop, List.length_take]; rfl)) ?_; (with_reducible refine (word_ParseHex.calls kj3 (t317.extract 9 17) t322 false _ A12.out).mono ?_); rintro e w' ⟨rfl, ⟨nd, rfl⟩⟩; refine ⟨_, rfl, ?_⟩))
              refine bodyPost_ret (results_list (rs := [.tmp 2, .tmp 3, .tmp 4, .tmp 5]) rfl (by simp) (.tmp (.tmp (.tmp (.tmp .nil))))) rfl ?_
              exact ⟨_, by first | rfl | (simp [errW_none, errW_some] <;> rfl) | (simp [*, errW_none, errW_some] <;> rfl), by first | exact Kd.R_nil _ _ _ _ _ | exact Kd.N_nil _ _ _ _ _ | exact Kd.V_nil _ _ _ _ _ | exact Kd.Q_nil _ _ _ _ _ | exact Kd.S_nil _ _ _ _ _, by repeat (first | (with_reducible first | exact HB.out | apply below_alloc | apply pw_below_drewN | apply below_drew1) | exact HB.out)⟩
            ·
             replace c24 := Bool.eq_false_iff.mpr c24
             subst c24
             have H1 : (some (0, ([] : List Int), (wrap64 (x8_1 + 1)), 22)) = some (r1, r2, r3, r4) := by rw [if_neg (show ¬ (false = true) by decide)] at H; exact H
             clear H
             have H := H1
             clear H1
             simp only [Option.some.injEq, Prod.mk.injEq] at H
             obtain ⟨rfl, rfl, rfl, rfl⟩ := H
             go_wp2_with (first | ((with_reducible refine gate_callee (f := 29) rfl ?_); refine goesL_ (some 38) rfl rfl Try.func29 (by kernel_rfl) rfl #[.string (t317.extract 0 8)] rfl (by (try simp only [List.map_toArray, List.map_cons, List.map_nil]); first | done | rfl | (simp only [List.length_drop, List.length_take]; rfl)) ?_; (with_reducible refine (word_ParseHex.calls kj3 (t317.extract 0 8) t320 false _ A9.out).mono ?_); rintro e w' ⟨rfl, ⟨nd, rfl⟩⟩; refine ⟨_, rfl, ?_⟩) | ((with_reducible refine gate_callee (f := 29) rfl ?_); refine goesL_ (some 44) rfl rfl Try.func29 (by kernel_rfl) rfl #[.string (t317.extract 9 17)] rfl (by (try simp only [List.map_toArray, List.map_cons, List.map_nil]); first | done | rfl | (simp only [List.length_drop, List.length_take]; rfl)) ?_; (with_reducible refine (word_ParseHex.calls kj3 (t317.extract 9 17) t322 t323 _ A12.out).mono ?_); rintro e w' ⟨rfl, ⟨nd, rfl⟩⟩; refine ⟨_, rfl, ?_⟩))
             refine bodyPost_ret (results_list (rs := [.tmp 2, .tmp 3, .tmp 4, .tmp 5]) rfl (by simp) (.tmp (.tmp (.tmp (.tmp .nil))))) rfl ?_
             exact ⟨_, by first | rfl | (simp [errW_none, errW_some] <;> rfl) | (simp [*, errW_none, errW_some] <;> rfl), by first | exact Kd.R_nil _ _ _ _ _ | exact Kd.N_nil _ _ _ _ _ | exact Kd.V_nil _ _ _ _ _ | exact Kd.Q_nil _ _ _ _ _ | exact Kd.S_nil _ _ _ _ _, by repeat (first | (with_reducible first | exact HB.out | apply below_alloc | apply pw_below_drewN | apply below_drew1) | exact HB.out)⟩
          ·
           rw [if_neg c11] at H
           exact absurd H (by simp)
         ·
          rw [if_neg c10] at H
          exact absurd H (by simp)
        ·
         rw [if_neg c8] at H
         exact absurd H (by simp)
       ·
        rw [if_neg c7] at H
        exact absurd H (by simp)
   ·
    rw [if_neg c2] at H
    have c2b0 : decide (0 < (x0_1.size : Int)) = false := decide_eq_false c2
    have c2b1 : decide (0 < x0_1.size) = false := decide_eq_false (by omega)
    clear c2
    simp only [Option.some.injEq, Prod.mk.injEq] at H
    obtain ⟨rfl, rfl, rfl, rfl⟩ := H
    go_wp2
    refine bodyPost_ret (results_list (rs := [.tmp 2, .tmp 3, .tmp 4, .tmp 5]) rfl (by simp) (.tmp (.tmp (.tmp (.tmp .nil))))) rfl ?_
    exact ⟨_, by first | rfl | (simp [errW_none, errW_some] <;> rfl) | (simp [*, errW_none, errW_some] <;> rfl), by (with_reducible repeat (first | apply Kd.R_alloc | apply Kd.R_drewN | apply Kd.R_drew)); exact HO_7.out, by repeat (first | (with_reducible first | exact HB.out | apply below_alloc | apply pw_below_drewN | apply below_drew1) | exact HB.out)⟩

end Go.Proofs.Ytfagpgpeiomnpaa.P

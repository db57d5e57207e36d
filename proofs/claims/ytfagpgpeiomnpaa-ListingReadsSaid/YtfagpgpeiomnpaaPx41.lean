/- Printed parts. -/
import Derived.Test.YtfagpgpeiomnpaaPx0
-- Written by a program of this session (wip/tools/hp.py) out of the translation.
namespace Go.Proofs.Ytfagpgpeiomnpaa.P
open Go.RowKit Go.Proofs.YtfagpgpeiomnpaaW.PrintWords Go.Proofs.YtfagpgpeiomnpaaW.PrintLast Go.Proofs.YtfagpgpeiomnpaaW.PrintMore
attribute [local go_sem] max2_int min2_int max_two min_two max_three min_three max_four min_four   -- for this text's walks alone
set_option linter.unusedVariables false
set_option linter.unusedSimpArgs false

/-! ### strings_Cut: function 28 -/
def strings_Cut.f (s sep : ByteArray) : Option (ByteArray × ByteArray × Bool) :=
 if sep.data = #[10] ∧ s.size < 4294967281 then (if 0 ≤ Go.Proofs.Ytfagpgpeiomnpaa.C.ct_ix s then some (s.extract 0 (Go.Proofs.Ytfagpgpeiomnpaa.C.ct_ix s).toNat, s.extract ((Go.Proofs.Ytfagpgpeiomnpaa.C.ct_ix s).toNat + 1) s.size, true) else some (s, ⟨#[]⟩, false)) else none
set_option maxHeartbeats 1000000 in
set_option maxRecDepth 100000 in
theorem strings_Cut.byte (s : ByteArray) (c : Int) (w : World) :
  Calls Try.prog 62 #[.string s, .int .u8 c] w fun e w' => e = .returned (.int .i64 (Lib.indexByte s.data.toList c.toNat.toUInt8)) ∧ w' = w := by
 go_enter Try.func62, Try.ntmps62
 go_wp2
 rw [run_callFunc_extern Try.func66 (by kernel_rfl) (by kernel_rfl) (by kernel_rfl) (e := Extern.BytealgIndexByte.indexByte) (by kernel_rfl), Lib.run_indexByteString]
 simp only [Result.andThen]
 rw [Oper.upon_value]
 go_wp2
 go_ret
 exact ⟨rfl, rfl⟩
set_option maxHeartbeats 2000000 in
set_option maxRecDepth 100000 in
theorem strings_Cut.index (s : ByteArray) (w : World) :
  Calls Try.prog 58 #[.string s, .string ⟨#[10]⟩] w fun e w' => e = .returned (.int .i64 (Go.Proofs.Ytfagpgpeiomnpaa.C.ct_ix s)) ∧ w' = w := by
 go_enter Try.func58, Try.ntmps58
 go_wp2_with (first | (go_at_call 62; ((with_reducible refine (strings_Cut.byte _ _ _).mono ?_)); rintro e w' ⟨rfl, rfl⟩))
 ·
  have h : ([10] == s.toList) = true := by assumption
  go_ret
  refine ⟨?_, rfl⟩
  have e : s.data.toList = [10] := by rw [← Lib.toList_data]; exact (beq_iff_eq.1 h).symm
  unfold Go.Proofs.Ytfagpgpeiomnpaa.C.ct_ix
  rw [e]
  simp [Lib.indexByte]
 ·
  go_ret
  exact ⟨rfl, rfl⟩
set_option maxHeartbeats 2000000 in
set_option maxRecDepth 100000 in
theorem strings_Cut.lite (s : ByteArray) (r1 r2 : ByteArray) (r3 : Bool) (w : World) (h : strings_Cut.f s ⟨#[10]⟩ = some (r1, r2, r3)) :
  Calls Try.prog 49 #[.string s, .string ⟨#[10]⟩] w fun e w' => e = .returned (.tuple #[.string r1, .string r2, .bool r3]) ∧ ∃ n, w' = w.drewN n := by
 unfold strings_Cut.f at h
 have hz : s.size < 4294967281 := by
  by_cases hz : s.size < 4294967281
  ·
   exact hz
  ·
   rw [if_neg (fun e => hz e.2)] at h
   exact absurd h (by simp)
 rw [if_pos ⟨rfl, hz⟩] at h
 rcases Go.Proofs.Ytfagpgpeiomnpaa.C.ct_cases s with hix | ⟨i, hix, hroom⟩
 ·
  rw [hix, if_neg (by omega)] at h
  cases h
  go_enter Try.func49, Try.ntmps49
  go_wp2_with (first | (go_at_call 58; ((with_reducible refine (strings_Cut.index _ _).mono ?_)); rintro e w' ⟨rfl, rfl⟩; rw [hix]))
  go_ret3
  exact ⟨rfl, 0, rfl⟩
 ·
  rw [hix, if_pos (by omega), Int.toNat_natCast] at h
  cases h
  have c1 : (0 : Int) ≤ (i : Int) := by omega
  have c2 : (i : Int) ≤ (s.size : Int) := by omega
  have c3 : (0 : Int) ≤ (i : Int) + 1 := by omega
  have c4 : (i : Int) + 1 ≤ (s.size : Int) := by omega
  have c5 : wrap64 ((i : Int) + 1) = (i : Int) + 1 := by unfold wrap64; omega
  have c6 : ((i : Int) + 1).toNat = i + 1 := by omega
  replace c1 := eq_true c1
  replace c2 := eq_true c2
  replace c3 := eq_true c3
  replace c4 := eq_true c4
  go_enter Try.func49, Try.ntmps49
  go_wp2_with (first | (go_at_call 58; ((with_reducible refine (strings_Cut.index _ _).mono ?_)); rintro e w' ⟨rfl, rfl⟩; rw [hix]))
  go_region
  go_wp2
  go_ret3
  exact ⟨rfl, 1, rfl⟩
set_option maxHeartbeats 1000000 in
set_option maxRecDepth 100000 in
theorem strings_Cut.calls (s sep : ByteArray) (r1 r2 : ByteArray) (r3 : Bool) (w : World) (h : strings_Cut.f s sep = some (r1, r2, r3)) :
  Calls Try.prog 28 #[.string s, .string sep] w fun e w' => e = .returned (.tuple #[.string r1, .string r2, .bool r3]) ∧ Drawn0 w w' := by
 have hs : sep = ⟨#[10]⟩ := by
  by_cases e : sep.data = #[10]
  ·
   cases sep; cases e; rfl
  ·
   unfold strings_Cut.f at h; rw [if_neg (fun g => e g.1)] at h; exact absurd h (by simp)
 subst hs
 go_enter Try.func28, Try.ntmps28
 go_wp2_with (first | (go_at_call 49; ((with_reducible refine (strings_Cut.lite _ _ _ _ _ h).mono ?_)); rintro e w' ⟨rfl, n, rfl⟩))
 go_ret3
 exact ⟨rfl, ⟨n, rfl⟩⟩

end Go.Proofs.Ytfagpgpeiomnpaa.P

-- Written by a program of this session (wip/tools/hp.py) out of the translation.
namespace Go.Proofs.Ytfagpgpeiomnpaa.P
open Go.RowKit Go.Proofs.YtfagpgpeiomnpaaW.PrintWords Go.Proofs.YtfagpgpeiomnpaaW.PrintLast Go.Proofs.YtfagpgpeiomnpaaW.PrintMore
attribute [local go_sem] max2_int min2_int max_two min_two max_three min_three max_four min_four   -- for this text's walks alone
set_option linter.unusedVariables false
set_option linter.unusedSimpArgs false

/-! ### word_ParseHex: function 29 -/
mutual
def word_ParseHex.l0 : Nat → ByteArray → Int → Int → Int → Option (Int × Bool)
 | 0, _, _, _, _ => none
 | k + 1, x0, x4, x11, x12 => if x12 < x11 then (if 0 ≤ x12 then (if x12 < (x0.size : Int) then (if (bt x0 x12) ≥ 48 then (word_ParseHex.j1 k x0 x4 (bt x0 x12) x11 x12 (decide ((bt x0 x12) ≤ 57))) else (word_ParseHex.j1 k x0 x4 (bt x0 x12) x11 x12 false)) else (none)) else (none)) else (some (x4, true))
def word_ParseHex.j1 : Nat → ByteArray → Int → Int → Int → Int → Bool → Option (Int × Bool)
 | 0, _, _, _, _, _, _ => none
 | k + 1, x0, x4, x6, x11, x12, x18 => if x18 = true then (word_ParseHex.l0 k x0 (Go.bits .or .u32 ((x4 * 16) % 4294967296) ((x6 - 48) % 256)) x11 (wrap64 (x12 + 1))) else (if x6 ≥ 97 then (if x6 ≤ 102 then (word_ParseHex.l0 k x0 (Go.bits .or .u32 ((x4 * 16) % 4294967296) ((((x6 - 97) % 256) + 10) % 256)) x11 (wrap64 (x12 + 1))) else (some (0, false))) else (some (0, false)))
end
def word_ParseHex.f (k : Nat) (a0 : ByteArray) : Option (Int × Bool) := if (a0.size : Int) = 8 then (word_ParseHex.l0 k a0 0 (a0.size : Int) 0) else (some (0, false))
theorem word_ParseHex.mono_l : ∀ k, (∀ y0 y1 y2 y3, LeO (word_ParseHex.l0 k y0 y1 y2 y3) (word_ParseHex.l0 (k + 1) y0 y1 y2 y3)) ∧ (∀ y0 y1 y2 y3 y4 y5, LeO (word_ParseHex.j1 k y0 y1 y2 y3 y4 y5) (word_ParseHex.j1 (k + 1) y0 y1 y2 y3 y4 y5))
 | 0 => ⟨fun _ _ _ _ r h => by simp [word_ParseHex.l0] at h, fun _ _ _ _ _ _ r h => by simp [word_ParseHex.j1] at h⟩
 | k + 1 => by
  obtain ⟨ih0, ih1⟩ := word_ParseHex.mono_l k
  refine ⟨?_, ?_⟩
  ·
   intro y0 y1 y2 y3
   unfold word_ParseHex.l0
   repeat' first
   | (with_reducible exact ih0 _ _ _ _)
   | (with_reducible exact ih1 _ _ _ _ _ _)
   | (with_reducible exact LeO.refl _)
   | (with_reducible exact LeO.none _)
   | (with_reducible refine LeO.ite ?_ ?_)
   | (with_reducible refine LeO.bind ?_ (fun _ => ?_))
   | exact ih0 _ _ _ _
   | exact ih1 _ _ _ _ _ _
   | exact LeO.none _
   | refine LeO.ite ?_ ?_
   | refine LeO.bind ?_ (fun _ => ?_)
  ·
   intro y0 y1 y2 y3 y4 y5
   unfold word_ParseHex.j1
   repeat' first
   | (with_reducible exact ih0 _ _ _ _)
   | (with_reducible exact ih1 _ _ _ _ _ _)
   | (with_reducible exact LeO.refl _)
   | (with_reducible exact LeO.none _)
   | (with_reducible refine LeO.ite ?_ ?_)
   | (with_reducible refine LeO.bind ?_ (fun _ => ?_))
   | exact ih0 _ _ _ _
   | exact ih1 _ _ _ _ _ _
   | exact LeO.none _
   | refine LeO.ite ?_ ?_
   | refine LeO.bind ?_ (fun _ => ?_)
theorem word_ParseHex.mono : ∀ a0 k, LeO (word_ParseHex.f k a0) (word_ParseHex.f (k + 1) a0) := by
 intro a0 k
 obtain ⟨ih0, ih1⟩ := word_ParseHex.mono_l k
 unfold word_ParseHex.f
 repeat' first
   | (with_reducible exact ih0 _ _ _ _)
   | (with_reducible exact ih1 _ _ _ _ _ _)
   | (with_reducible exact LeO.refl _)
   | (with_reducible exact LeO.none _)
   | (with_reducible refine LeO.ite ?_ ?_)
   | (with_reducible refine LeO.bind ?_ (fun _ => ?_))
   | exact ih0 _ _ _ _
   | exact ih1 _ _ _ _ _ _
   | exact LeO.none _
   | refine LeO.ite ?_ ?_
   | refine LeO.bind ?_ (fun _ => ?_)
set_option maxHeartbeats 8000000 in
set_option maxRecDepth 100000 in
theorem word_ParseHex.calls (k : Nat) (a0 : ByteArray) (r1 : Int) (r2 : Bool) (w : World) (h : word_ParseHex.f k a0 = some (r1, r2)) :
  Calls Try.prog 29 #[.string a0] w fun e w' => e = .returned (.tuple #[.int .u32 r1, .bool r2]) ∧ Drawn0 w w' := by
 have H : (if (a0.size : Int) = 8 then (word_ParseHex.l0 k a0 0 (a0.size : Int) 0) else (some (0, false))) = some (r1, r2) := h
 clear h
 by_cases c2 : (a0.size : Int) = 8
 ·
  rw [if_pos c2] at H
  have c2b0 : ((a0.size : Int) == 8) = true := beq_iff_eq.mpr c2
  have c2b1 : ((a0.size : Int) != 8) = false := bne_eq_false_iff_eq.mpr c2
  clear c2
  have H' := Aside0.mk H
  clear H
  go_enter Try.func29, Try.ntmps29
  go_wp2
  go_loopg [4, 12] k (fun kq v4 v12 w' => ∃ (x4_1 : Int) (x12_1 : Int), v4 = .int .u32 x4_1 ∧ v12 = .int .i64 x12_1 ∧ Aside0 (word_ParseHex.l0 kq a0 x4_1 (a0.size : Int) x12_1 = some (r1, r2)) ∧ Aside0 (kq ≤ k) ∧ Drawn0 w w')
  case atStart => exact ⟨(0), (0), (by first | rfl | (simp; done) | (simp [*]; done)), (by first | rfl | (simp; done) | (simp [*]; done)), H', ⟨Nat.le_refl _⟩, by repeat (first | exact Drawn0.refl _ | apply Drawn0.step)⟩
  case round =>
   clear H'
   (try clear c2); (try clear c2b0); (try clear c2b1); (try clear p2)
   obtain ⟨x4_1, x12_1, rfl, rfl, HA, HK1, ⟨m1, rfl⟩⟩ := hrel
   cases gk with
   | zero => exact absurd HA.out (by simp [word_ParseHex.l0])
   | succ k1 =>
    have H := HA.out
    clear HA
    simp only [word_ParseHex.l0] at H
    by_cases c3 : x12_1 < (a0.size : Int)
    ·
     rw [if_pos c3] at H
     have c3b0 : decide (x12_1 < (a0.size : Int)) = true := decide_eq_true c3
     clear c3
     by_cases c4 : 0 ≤ x12_1
     ·
      rw [if_pos c4] at H
      have c4b0 : decide (0 ≤ x12_1) = true := decide_eq_true c4
      clear c4
      by_cases c5 : x12_1 < (a0.size : Int)
      ·
       rw [if_pos c5] at H
       have c5b0 : decide (x12_1 < (a0.size : Int)) = true := decide_eq_true c5
       clear c5
       have HC7 := Aside0.mk H
       clear H
       have p6 : 0 ≤ (x12_1 : Int) := of_decide_eq_true (by first | (with_reducible assumption) | assumption)
       have q6 : x12_1 < (a0.size : Int) := of_decide_eq_true (by first | (with_reducible assumption) | assumption)
       have hx6 := bt_at a0 x12_1
       replace p6 := eq_true p6
       replace q6 := eq_true q6
       go_upto_region 9 with (fail)
       go_cut [18] (fun v18 wc => ∃ (kq : Nat) (x18_6 : Bool), v18 = .bool x18_6 ∧ Aside0 (word_ParseHex.j1 kq a0 x4_1 (bt a0 x12_1) (a0.size : Int) x12_1 x18_6 = some (r1, r2)) ∧ Aside0 (kq ≤ k1) ∧ Drawn0 w wc)
       case first =>
        have H := HC7.out
        clear HC7
        by_cases c8 : (bt a0 x12_1) ≥ 48
        ·
         rw [if_pos c8] at H
         have c8b0 : decide (48 ≤ (bt a0 x12_1)) = true := decide_eq_true c8
         clear c8
         (first | rw [c8b0] | (simp only [i64_w, i32_w]; rw [c8b0]) | skip)
         have H' := Aside0.mk H
         clear H
         go_wp2
         go_meet
         case rel => exact ⟨_, (decide ((bt a0 x12_1) ≤ 57)), (by first | rfl | (simp; done) | (simp [*]; done)), H', ⟨by have := HK1.out; first | omega | exact Nat.le_refl _⟩, by repeat (first | exact Drawn0.refl _ | apply Drawn0.step)⟩
        ·
         rw [if_neg c8] at H
         have c8b0 : decide (48 ≤ (bt a0 x12_1)) = false := decide_eq_false c8
         clear c8
         (first | rw [c8b0] | (simp only [i64_w, i32_w]; rw [c8b0]) | skip)
         have H' := Aside0.mk H
         clear H
         go_wp2
         go_meet
         case rel => exact ⟨_, (false), (by first | rfl | (simp; done) | (simp [*]; done)), H', ⟨by have := HK1.out; first | omega | exact Nat.le_refl _⟩, by repeat (first | exact Drawn0.refl _ | apply Drawn0.step)⟩
       case rest =>
        clear HC7
        (try clear c2); (try clear c2b0); (try clear c2b1); (try clear p2); (try clear c3); (try clear c3b0); (try clear c4); (try clear c4b0); (try clear c5); (try clear c5b0); (try clear p6); (try clear q6); (try clear hx6); (try clear c8); (try clear c8b0); (try clear p2); (try clear p6); (try clear q6)
        obtain ⟨kq, x18_6, rfl, HA, HJ6, ⟨mc6, rfl⟩⟩ := hcut
        cases kq with
        | zero => exact absurd HA.out (by simp [word_ParseHex.j1])
        | succ kj6 =>
         have H := HA.out
         clear HA
         simp only [word_ParseHex.j1] at H
         by_cases c9 : x18_6 = true
         ·
          subst c9
          have H1 : (word_ParseHex.l0 kj6 a0 (Go.bits .or .u32 ((x4_1 * 16) % 4294967296) (((bt a0 x12_1) - 48) % 256)) (a0.size : Int) (wrap64 (x12_1 + 1))) = some (r1, r2) := by rw [if_pos rfl] at H; exact H
          clear H
          have H := H1
          clear H1
          have H' := Aside0.mk H
          clear H
          go_wp2
          go_roundg kj6
          case measure => have := HK1.out; have := HJ6.out; omega
          case rel => exact ⟨(Go.bits .or .u32 ((x4_1 * 16) % 4294967296) (((bt a0 x12_1) - 48) % 256)), (wrap64 (x12_1 + 1)), (by first | rfl | (simp; done) | (simp [*]; done)), (by first | rfl | (simp; done) | (simp [*]; done)), H', ⟨by have := HK1.out; have := HJ6.out; omega⟩, by repeat (first | exact Drawn0.refl _ | apply Drawn0.step)⟩
         ·
          replace c9 := Bool.eq_false_iff.mpr c9
          subst c9
          have H1 : (if (bt a0 x12_1) ≥ 97 then (if (bt a0 x12_1) ≤ 102 then (word_ParseHex.l0 kj6 a0 (Go.bits .or .u32 ((x4_1 * 16) % 4294967296) (((((bt a0 x12_1) - 97) % 256) + 10) % 256)) (a0.size : Int) (wrap64 (x12_1 + 1))) else (some (0, false))) else (some (0, false))) = some (r1, r2) := by rw [if_neg (show ¬ (false = true) by decide)] at H; exact H
          clear H
          have H := H1
          clear H1
          by_cases c10 : (bt a0 x12_1) ≥ 97
          ·
           rw [if_pos c10] at H
           have c10b0 : decide (97 ≤ (bt a0 x12_1)) = true := decide_eq_true c10
           clear c10
           by_cases c11 : (bt a0 x12_1) ≤ 102
           ·
            rw [if_pos c11] at H
            have c11b0 : decide ((bt a0 x12_1) ≤ 102) = true := decide_eq_true c11
            clear c11
            have H' := Aside0.mk H
            clear H
            go_wp2
            go_roundg kj6
            case measure => have := HK1.out; have := HJ6.out; omega
            case rel => exact ⟨(Go.bits .or .u32 ((x4_1 * 16) % 4294967296) (((((bt a0 x12_1) - 97) % 256) + 10) % 256)), (wrap64 (x12_1 + 1)), (by first | rfl | (simp; done) | (simp [*]; done)), (by first | rfl | (simp; done) | (simp [*]; done)), H', ⟨by have := HK1.out; have := HJ6.out; omega⟩, by repeat (first | exact Drawn0.refl _ | apply Drawn0.step)⟩
           ·
            rw [if_neg c11] at H
            have c11b0 : decide ((bt a0 x12_1) ≤ 102) = false := decide_eq_false c11
            clear c11
            simp only [Option.some.injEq, Prod.mk.injEq] at H
            obtain ⟨rfl, rfl⟩ := H
            go_wp2
            go_ret2
            exact ⟨by first | rfl | (simp; done) | (simp [*]; done), by repeat (first | exact Drawn0.refl _ | apply Drawn0.step)⟩
          ·
           rw [if_neg c10] at H
           have c10b0 : decide (97 ≤ (bt a0 x12_1)) = false := decide_eq_false c10
           clear c10
           simp only [Option.some.injEq, Prod.mk.injEq] at H
           obtain ⟨rfl, rfl⟩ := H
           go_wp2
           go_ret2
           exact ⟨by first | rfl | (simp; done) | (simp [*]; done), by repeat (first | exact Drawn0.refl _ | apply Drawn0.step)⟩
      ·
       rw [if_neg c5] at H
       exact absurd H (by simp)
     ·
      rw [if_neg c4] at H
      exact absurd H (by simp)
    ·
     rw [if_neg c3] at H
     have c3b0 : decide (x12_1 < (a0.size : Int)) = false := decide_eq_false c3
     clear c3
     simp only [Option.some.injEq, Prod.mk.injEq] at H
     obtain ⟨rfl, rfl⟩ := H
     go_wp2
     go_ret2
     exact ⟨by first | rfl | (simp; done) | (simp [*]; done), by repeat (first | exact Drawn0.refl _ | apply Drawn0.step)⟩
 ·
  rw [if_neg c2] at H
  have c2b0 : ((a0.size : Int) == 8) = false := beq_eq_false_iff_ne.mpr c2
  have c2b1 : ((a0.size : Int) != 8) = true := bne_iff_ne.mpr c2
  simp only [Option.some.injEq, Prod.mk.injEq] at H
  obtain ⟨rfl, rfl⟩ := H
  go_enter Try.func29, Try.ntmps29
  go_wp2
  go_ret2
  exact ⟨by first | rfl | (simp; done) | (simp [*]; done), by repeat (first | exact Drawn0.refl _ | apply Drawn0.step)⟩

end Go.Proofs.Ytfagpgpeiomnpaa.P

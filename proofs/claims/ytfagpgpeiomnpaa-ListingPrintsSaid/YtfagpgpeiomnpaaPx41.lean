/- Printed parts. -/
import Derived.Test.YtfagpgpeiomnpaaPx0
import Derived.Test.YtfagpgpeiomnpaaCCf
import Derived.Test.YtfagpgpeiomnpaaPx12
import Derived.Test.YtfagpgpeiomnpaaPx34
namespace Go.Proofs.Ytfagpgpeiomnpaa.P
open Go.RowKit Go.Proofs.YtfagpgpeiomnpaaW.PrintWords Go.Proofs.YtfagpgpeiomnpaaW.PrintLast Go.Proofs.YtfagpgpeiomnpaaW.PrintMore
attribute [local go_sem] max2_int min2_int max_two min_two max_three min_three max_four min_four   -- for this text's walks alone
set_option linter.unusedVariables false
set_option linter.unusedSimpArgs false

/-! ### strings_Cut: function 28 -/
def strings_Cut.f (s sep : ByteArray) : Option (ByteArray × ByteArray × Bool) :=
 if sep.data = #[10] ∧ s.size < 4294967281 then (if 0 ≤ Go.Proofs.Ytfagpgpeiomnpaa.C.ct_ix s then some (s.extract 0 (Go.Proofs.Ytfagpgpeiomnpaa.C.ct_ix s).toNat, s.extract ((Go.Proofs.Ytfagpgpeiomnpaa.C.ct_ix s).toNat + 1) s.size, true) else some (s, ⟨#[]⟩, false)) else none
set_option maxHeartbeats 1000000 in
set_option maxRecDepth 100000 in
theorem strings_Cut.byte (s : ByteArray) (c : Int) (w : World) :
 Calls Try.prog 62 #[.string s, .int .u8 c] w fun e w' => e = .returned (.int .i64 (Lib.indexByte s.data.toList c.toNat.toUInt8)) ∧ w' = w := by
 go_enter Try.func62, Try.ntmps62
 go_wp2
 rw [run_callFunc_extern Try.func66 (by kernel_rfl) (by kernel_rfl) (by kernel_rfl) (e := Extern.BytealgIndexByte.indexByte) (by kernel_rfl), Lib.run_indexByteString]
 simp only [Result.andThen]
 rw [Oper.upon_value]
 go_wp2
 go_ret
 exact ⟨rfl, rfl⟩
set_option maxHeartbeats 2000000 in
set_option maxRecDepth 100000 in
theorem strings_Cut.index (s : ByteArray) (w : World) :
 Calls Try.prog 58 #[.string s, .string ⟨#[10]⟩] w fun e w' => e = .returned (.int .i64 (Go.Proofs.Ytfagpgpeiomnpaa.C.ct_ix s)) ∧ w' = w := by
 go_enter Try.func58, Try.ntmps58
 go_wp2_with (first | (go_at_call 62; ((with_reducible refine (strings_Cut.byte _ _ _).mono ?_)); rintro e w' ⟨rfl, rfl⟩))
 ·
  have h : ([10] == s.toList) = true := by assumption
  go_ret
  refine ⟨?_, rfl⟩
  have e : s.data.toList = [10] := by rw [← Lib.toList_data]; exact (beq_iff_eq.1 h).symm
  unfold Go.Proofs.Ytfagpgpeiomnpaa.C.ct_ix
  rw [e]
  simp [Lib.indexByte]
 ·
  go_ret
  exact ⟨rfl, rfl⟩
set_option maxHeartbeats 2000000 in
set_option maxRecDepth 100000 in
theorem strings_Cut.lite (s : ByteArray) (r1 r2 : ByteArray) (r3 : Bool) (w : World) (h : strings_Cut.f s ⟨#[10]⟩ = some (r1, r2, r3)) :
 Calls Try.prog 49 #[.string s, .string ⟨#[10]⟩] w fun e w' => e = .returned (.tuple #[.string r1, .string r2, .bool r3]) ∧ ∃ n, w' = w.drewN n := by
 unfold strings_Cut.f at h
 have hz : s.size < 4294967281 := by
  by_cases hz : s.size < 4294967281
  ·
   exact hz
  ·
   rw [if_neg (fun e => hz e.2)] at h
   exact absurd h (by simp)
 rw [if_pos ⟨rfl, hz⟩] at h
 rcases Go.Proofs.Ytfagpgpeiomnpaa.C.ct_cases s with hix | ⟨i, hix, hroom⟩
 ·
  rw [hix, if_neg (by omega)] at h
  cases h
  go_enter Try.func49, Try.ntmps49
  go_wp2_with (first | (go_at_call 58; ((with_reducible refine (strings_Cut.index _ _).mono ?_)); rintro e w' ⟨rfl, rfl⟩; rw [hix]))
  go_ret3
  exact ⟨rfl, 0, rfl⟩
 ·
  rw [hix, if_pos (by omega), Int.toNat_natCast] at h
  cases h
  have c1 : (0 : Int) ≤ (i : Int) := by omega
  have c2 : (i : Int) ≤ (s.size : Int) := by omega
  have c3 : (0 : Int) ≤ (i : Int) + 1 := by omega
  have c4 : (i : Int) + 1 ≤ (s.size : Int) := by omega
  have c5 : wrap64 ((i : Int) + 1) = (i : Int) + 1 := by unfold wrap64; omega
  have c6 : ((i : Int) + 1).toNat = i + 1 := by omega
  replace c1 := eq_true c1
  replace c2 := eq_true c2
  replace c3 := eq_true c3
  replace c4 := eq_true c4
  go_enter Try.func49, Try.ntmps49
  go_wp2_with (first | (go_at_call 58; ((with_reducible refine (strings_Cut.index _ _).mono ?_)); rintro e w' ⟨rfl, rfl⟩; rw [hix]))
  go_region
  go_wp2
  go_ret3
  exact ⟨rfl, 1, rfl⟩
set_option maxHeartbeats 1000000 in
set_option maxRecDepth 100000 in
theorem strings_Cut.calls (s sep : ByteArray) (r1 r2 : ByteArray) (r3 : Bool) (w : World) (h : strings_Cut.f s sep = some (r1, r2, r3)) :
 Calls Try.prog 28 #[.string s, .string sep] w fun e w' => e = .returned (.tuple #[.string r1, .string r2, .bool r3]) ∧ Drawn0 w w' := by
 have hs : sep = ⟨#[10]⟩ := by
  by_cases e : sep.data = #[10]
  ·
   cases sep; cases e; rfl
  ·
   unfold strings_Cut.f at h; rw [if_neg (fun g => e g.1)] at h; exact absurd h (by simp)
 subst hs
 go_enter Try.func28, Try.ntmps28
 go_wp2_with (first | (go_at_call 49; ((with_reducible refine (strings_Cut.lite _ _ _ _ _ h).mono ?_)); rintro e w' ⟨rfl, n, rfl⟩))
 go_ret3
 exact ⟨rfl, ⟨n, rfl⟩⟩

end Go.Proofs.Ytfagpgpeiomnpaa.P

namespace Go.Proofs.Ytfagpgpeiomnpaa.P
open Go.RowKit Go.Proofs.YtfagpgpeiomnpaaW.PrintWords Go.Proofs.YtfagpgpeiomnpaaW.PrintLast Go.Proofs.YtfagpgpeiomnpaaW.PrintMore
attribute [local go_sem] max2_int min2_int max_two min_two max_three min_three max_four min_four   -- for this text's walks alone
set_option linter.unusedVariables false
set_option linter.unusedSimpArgs false

/-! ### word_ParseHex: function 29 -/
mutual
def word_ParseHex.l0 : Nat → ByteArray → Int → Int → Int → Option (Int × Bool)
 | 0, _, _, _, _ => none
 | k + 1, x0, x4, x11, x12 => if x12 < x11 then (if 0 ≤ x12 then (if x12 < (x0.size : Int) then (if (bt x0 x12) ≥ 48 then (word_ParseHex.j1 k x0 x4 (bt x0 x12) x11 x12 (decide ((bt x0 x12) ≤ 57))) else (word_ParseHex.j1 k x0 x4 (bt x0 x12) x11 x12 false)) else (none)) else (none)) else (some (x4, true))
def word_ParseHex.j1 : Nat → ByteArray → Int → Int → Int → Int → Bool → Option (Int × Bool)
 | 0, _, _, _, _, _, _ => none
 | k + 1, x0, x4, x6, x11, x12, x18 => if x18 = true then (word_ParseHex.l0 k x0 (Go.bits .or .u32 ((x4 * 16) % 4294967296) ((x6 - 48) % 256)) x11 (wrap64 (x12 + 1))) else (if x6 ≥ 97 then (if x6 ≤ 102 then (word_ParseHex.l0 k x0 (Go.bits .or .u32 ((x4 * 16) % 4294967296) ((((x6 - 97) % 256) + 10) % 256)) x11 (wrap64 (x12 + 1))) else (some (0, false))) else (some (0, false)))
end
def word_ParseHex.f (k : Nat) (a0 : ByteArray) : Option (Int × Bool) := if (a0.size : Int) = 8 then (word_ParseHex.l0 k a0 0 (a0.size : Int) 0) else (some (0, false))
theorem word_ParseHex.mono_l : ∀ k, (∀ y0 y1 y2 y3, LeO (word_ParseHex.l0 k y0 y1 y2 y3) (word_ParseHex.l0 (k + 1) y0 y1 y2 y3)) ∧ (∀ y0 y1 y2 y3 y4 y5, LeO (word_ParseHex.j1 k y0 y1 y2 y3 y4 y5) (word_ParseHex.j1 (k + 1) y0 y1 y2 y3 y4 y5))
 | 0 => ⟨fun _ _ _ _ r h => by simp [word_ParseHex.l0] at h, fun _ _ _ _ _ _ r h => by simp [word_ParseHex.j1] at h⟩
 | k + 1 => by
  obtain ⟨ih0, ih1⟩ := word_ParseHex.mono_l k
  refine ⟨?_, ?_⟩
  ·
   intro y0 y1 y2 y3
   unfold word_ParseHex.l0
   repeat' first
   | (with_reducible exact ih0 _ _ _ _)
   | (with_reducible exact ih1 _ _ _ _ _ _)
   | (with_reducible exact LeO.refl _)
   | (with_reducible exact LeO.none _)
   | (with_reducible refine LeO.ite ?_ ?_)
   | (with_reducible refine LeO.bind ?_ (fun _ => ?_))
   | exact LeO.none _
   | refine LeO.ite ?_ ?_
   | refine LeO.bind ?_ (fun _ => ?_)
  ·
   intro y0 y1 y2 y3 y4 y5
   unfold word_ParseHex.j1
   repeat' first
   | (with_reducible exact ih0 _ _ _ _)
   | (with_reducible exact ih1 _ _ _ _ _ _)
   | (with_reducible exact LeO.refl _)
   | (with_reducible exact LeO.none _)
   | (with_reducible refine LeO.ite ?_ ?_)
   | (with_reducible refine LeO.bind ?_ (fun _ => ?_))
   | exact LeO.none _
   | refine LeO.ite ?_ ?_
   | refine LeO.bind ?_ (fun _ => ?_)
theorem word_ParseHex.mono : ∀ a0 k, LeO (word_ParseHex.f k a0) (word_ParseHex.f (k + 1) a0) := by
 intro a0 k
 obtain ⟨ih0, ih1⟩ := word_ParseHex.mono_l k
 unfold word_ParseHex.f
 repeat' first
  | (with_reducible exact ih0 _ _ _ _)
  | (with_reducible exact ih1 _ _ _ _ _ _)
  | (with_reducible exact LeO.refl _)
  | (with_reducible exact LeO.none _)
  | (with_reducible refine LeO.ite ?_ ?_)
  | (with_reducible refine LeO.bind ?_ (fun _ => ?_))
  | exact LeO.none _
  | refine LeO.ite ?_ ?_
  | refine LeO.bind ?_ (fun _ => ?_)
set_option maxHeartbeats 8000000 in
set_option maxRecDepth 100000 in
theorem word_ParseHex.calls (k : Nat) (a0 : ByteArray) (r1 : Int) (r2 : Bool) (w : World) (h : word_ParseHex.f k a0 = some (r1, r2)) :
 Calls Try.prog 29 #[.string a0] w fun e w' => e = .returned (.tuple #[.int .u32 r1, .bool r2]) ∧ Drawn0 w w' := by
 have H : (if (a0.size : Int) = 8 then (word_ParseHex.l0 k a0 0 (a0.size : Int) 0) else (some (0, false))) = some (r1, r2) := h
 clear h
 by_cases c2 : (a0.size : Int) = 8
 ·
  rw [if_pos c2] at H
  have c2b0 : ((a0.size : Int) == 8) = true := beq_iff_eq.mpr c2
  have c2b1 : ((a0.size : Int) != 8) = false := bR c2
  clear c2
  have H' := mK H
  clear H
  go_enter Try.func29, Try.ntmps29
  go_wp2
  go_loopg [4, 12] k (fun kq v4 v12 w' => ∃ (x4_1 : Int) (x12_1 : Int), v4 = .int .u32 x4_1 ∧ v12 = .int .i64 x12_1 ∧ Aside0 (word_ParseHex.l0 kq a0 x4_1 (a0.size : Int) x12_1 = some (r1, r2)) ∧ Aside0 (kq ≤ k) ∧ Drawn0 w w')
  case atStart => exact ⟨(0), (0), (by first | rfl | (simp; done) | (simp [*]; done)), (by first | rfl | (simp; done) | (simp [*]; done)), H', ⟨Nat.le_refl _⟩, by repeat (first | exact Drawn0.refl _ | apply Drawn0.step)⟩
  case round =>
   clear H'
   (try clear c2); (try clear c2b0); (try clear c2b1)
   obtain ⟨x4_1, x12_1, rfl, rfl, HA, HK1, ⟨m1, rfl⟩⟩ := hrel
   cases gk with
   | zero => exact absurd HA.out (by simp [word_ParseHex.l0])
   | succ k1 =>
    have H := HA.out
    clear HA
    simp only [word_ParseHex.l0] at H
    by_cases c3 : x12_1 < (a0.size : Int)
    ·
     rw [if_pos c3] at H
     have c3b0 : decide (x12_1 < (a0.size : Int)) = true := decide_eq_true c3
     clear c3
     by_cases c4 : 0 ≤ x12_1
     ·
      rw [if_pos c4] at H
      have c4b0 : decide (0 ≤ x12_1) = true := decide_eq_true c4
      clear c4
      by_cases c5 : x12_1 < (a0.size : Int)
      ·
       rw [if_pos c5] at H
       have c5b0 : decide (x12_1 < (a0.size : Int)) = true := decide_eq_true c5
       clear c5
       have HC7 := mK H
       clear H
       have p6 : 0 ≤ (x12_1 : Int) := of_decide_eq_true (by first | (with_reducible assumption) | assumption)
       have q6 : x12_1 < (a0.size : Int) := of_decide_eq_true (by first | (with_reducible assumption) | assumption)
       have hx6 := bt_at a0 x12_1
       replace p6 := eq_true p6
       replace q6 := eq_true q6
       go_upto_region 9 with (fail)
       go_cut [18] (fun v18 wc => ∃ (kq : Nat) (x18_6 : Bool), v18 = .bool x18_6 ∧ Aside0 (word_ParseHex.j1 kq a0 x4_1 (bt a0 x12_1) (a0.size : Int) x12_1 x18_6 = some (r1, r2)) ∧ Aside0 (kq ≤ k1) ∧ Drawn0 w wc)
       case first =>
        have H := HC7.out
        clear HC7
        by_cases c8 : (bt a0 x12_1) ≥ 48
        ·
         rw [if_pos c8] at H
         have c8b0 : decide (48 ≤ (bt a0 x12_1)) = true := decide_eq_true c8
         clear c8
         (first | rw [c8b0] | (simp only [i64_w, i32_w]; rw [c8b0]) | skip)
         have H' := mK H
         clear H
         go_wp2
         go_meet
         case rel => exact ⟨_, (decide ((bt a0 x12_1) ≤ 57)), (by first | rfl | (simp; done) | (simp [*]; done)), H', ⟨by have := HK1.out; first | omega | exact Nat.le_refl _⟩, by repeat (first | exact Drawn0.refl _ | apply Drawn0.step)⟩
        ·
         rw [if_neg c8] at H
         have c8b0 : decide (48 ≤ (bt a0 x12_1)) = false := decide_eq_false c8
         clear c8
         (first | rw [c8b0] | (simp only [i64_w, i32_w]; rw [c8b0]) | skip)
         have H' := mK H
         clear H
         go_wp2
         go_meet
         case rel => exact ⟨_, (false), (by first | rfl | (simp; done) | (simp [*]; done)), H', ⟨by have := HK1.out; first | omega | exact Nat.le_refl _⟩, by repeat (first | exact Drawn0.refl _ | apply Drawn0.step)⟩
       case rest =>
        clear HC7
        (try clear c2); (try clear c2b0); (try clear c2b1); (try clear c3); (try clear c3b0); (try clear c4); (try clear c4b0); (try clear c5); (try clear c5b0); (try clear p6); (try clear q6); (try clear hx6); (try clear p6); (try clear q6)
        obtain ⟨kq, x18_6, rfl, HA, HJ6, ⟨mc6, rfl⟩⟩ := hcut
        cases kq with
        | zero => exact absurd HA.out (by simp [word_ParseHex.j1])
        | succ kj6 =>
         have H := HA.out
         clear HA
         simp only [word_ParseHex.j1] at H
         by_cases c9 : x18_6 = true
         ·
          subst c9
          have H1 : (word_ParseHex.l0 kj6 a0 (Go.bits .or .u32 ((x4_1 * 16) % 4294967296) (((bt a0 x12_1) - 48) % 256)) (a0.size : Int) (wrap64 (x12_1 + 1))) = some (r1, r2) := by rw [if_pos rfl] at H; exact H
          clear H
          have H := H1
          clear H1
          have H' := mK H
          clear H
          go_wp2
          go_roundg kj6
          case measure => have := HK1.out; have := HJ6.out; omega
          case rel => exact ⟨(Go.bits .or .u32 ((x4_1 * 16) % 4294967296) (((bt a0 x12_1) - 48) % 256)), (wrap64 (x12_1 + 1)), (by first | rfl | (simp; done) | (simp [*]; done)), (by first | rfl | (simp; done) | (simp [*]; done)), H', ⟨by have := HK1.out; have := HJ6.out; omega⟩, by repeat (first | exact Drawn0.refl _ | apply Drawn0.step)⟩
         ·
          replace c9 := Bool.eq_false_iff.mpr c9
          subst c9
          have H1 : (if (bt a0 x12_1) ≥ 97 then (if (bt a0 x12_1) ≤ 102 then (word_ParseHex.l0 kj6 a0 (Go.bits .or .u32 ((x4_1 * 16) % 4294967296) (((((bt a0 x12_1) - 97) % 256) + 10) % 256)) (a0.size : Int) (wrap64 (x12_1 + 1))) else (some (0, false))) else (some (0, false))) = some (r1, r2) := by rw [if_neg (show ¬ (false = true) by decide)] at H; exact H
          clear H
          have H := H1
          clear H1
          by_cases c10 : (bt a0 x12_1) ≥ 97
          ·
           rw [if_pos c10] at H
           have c10b0 : decide (97 ≤ (bt a0 x12_1)) = true := decide_eq_true c10
           clear c10
           by_cases c11 : (bt a0 x12_1) ≤ 102
           ·
            rw [if_pos c11] at H
            have c11b0 : decide ((bt a0 x12_1) ≤ 102) = true := decide_eq_true c11
            clear c11
            have H' := mK H
            clear H
            go_wp2
            go_roundg kj6
            case measure => have := HK1.out; have := HJ6.out; omega
            case rel => exact ⟨(Go.bits .or .u32 ((x4_1 * 16) % 4294967296) (((((bt a0 x12_1) - 97) % 256) + 10) % 256)), (wrap64 (x12_1 + 1)), (by first | rfl | (simp; done) | (simp [*]; done)), (by first | rfl | (simp; done) | (simp [*]; done)), H', ⟨by have := HK1.out; have := HJ6.out; omega⟩, by repeat (first | exact Drawn0.refl _ | apply Drawn0.step)⟩
           ·
            rw [if_neg c11] at H
            have c11b0 : decide ((bt a0 x12_1) ≤ 102) = false := decide_eq_false c11
            clear c11
            simp only [Option.some.injEq, Prod.mk.injEq] at H
            obtain ⟨rfl, rfl⟩ := H
            go_wp2
            go_ret2
            exact ⟨by first | rfl | (simp; done) | (simp [*]; done), by repeat (first | exact Drawn0.refl _ | apply Drawn0.step)⟩
          ·
           rw [if_neg c10] at H
           have c10b0 : decide (97 ≤ (bt a0 x12_1)) = false := decide_eq_false c10
           clear c10
           simp only [Option.some.injEq, Prod.mk.injEq] at H
           obtain ⟨rfl, rfl⟩ := H
           go_wp2
           go_ret2
           exact ⟨by first | rfl | (simp; done) | (simp [*]; done), by repeat (first | exact Drawn0.refl _ | apply Drawn0.step)⟩
      ·
       rw [if_neg c5] at H
       exact absurd H (by simp)
     ·
      rw [if_neg c4] at H
      exact absurd H (by simp)
    ·
     rw [if_neg c3] at H
     have c3b0 : decide (x12_1 < (a0.size : Int)) = false := decide_eq_false c3
     clear c3
     simp only [Option.some.injEq, Prod.mk.injEq] at H
     obtain ⟨rfl, rfl⟩ := H
     go_wp2
     go_ret2
     exact ⟨by first | rfl | (simp; done) | (simp [*]; done), by repeat (first | exact Drawn0.refl _ | apply Drawn0.step)⟩
 ·
  rw [if_neg c2] at H
  have c2b0 : ((a0.size : Int) == 8) = false := bQ c2
  have c2b1 : ((a0.size : Int) != 8) = true := bne_iff_ne.mpr c2
  simp only [Option.some.injEq, Prod.mk.injEq] at H
  obtain ⟨rfl, rfl⟩ := H
  go_enter Try.func29, Try.ntmps29
  go_wp2
  go_ret2
  exact ⟨by first | rfl | (simp; done) | (simp [*]; done), by repeat (first | exact Drawn0.refl _ | apply Drawn0.step)⟩

end Go.Proofs.Ytfagpgpeiomnpaa.P

namespace Go.Proofs.Ytfagpgpeiomnpaa.P
open Go.RowKit Go.Proofs.YtfagpgpeiomnpaaW.PrintWords Go.Proofs.YtfagpgpeiomnpaaW.PrintLast Go.Proofs.YtfagpgpeiomnpaaW.PrintMore
attribute [local go_sem] max2_int min2_int max_two min_two max_three min_three max_four min_four   -- for this text's walks alone
set_option linter.unusedVariables false
set_option linter.unusedSimpArgs false

/-! ### listing_Read: function 13 -/
mutual
def listing_Read.l0 : Nat → ByteArray → Int → List Int → Int → Option (Int × List Int × Int × Int)
 | 0, _, _, _, _ => none
 | k + 1, x0, x6, x7, x8 => if (x0.size : Int) > 0 then ((strings_Cut.f x0 (⟨#[10]⟩ : ByteArray)).bind fun bt317 => (if bt317.2.2 = true then (listing_Read.j1 k x6 x7 (wrap64 (x8 + 1)) bt317.1 bt317.2.1 (decide ((bt317.1.size : Int) < 17))) else (listing_Read.j1 k x6 x7 (wrap64 (x8 + 1)) bt317.1 bt317.2.1 true))) else (some (x6, x7, 0, 0))
def listing_Read.j1 : Nat → Int → List Int → Int → ByteArray → ByteArray → Bool → Option (Int × List Int × Int × Int)
 | 0, _, _, _, _, _, _ => none
 | k + 1, x6, x7, x8, x9, x10, x33 => if x33 = true then (some (0, ([] : List Int), x8, 22)) else (if 0 ≤ 8 then (if 8 ≤ (x9.size : Int) then ((word_ParseHex.f k (x9.extract 0 8)).bind fun bt320 => (if 9 ≤ 17 then (if 17 ≤ (x9.size : Int) then ((word_ParseHex.f k (x9.extract 9 17)).bind fun bt322 => (if x8 = 1 then (if bt320.2 = true then (if bt322.2 = true then ((listing_Line.f k ((bt320.1 + ((wrap64 (4 * (x7.length : Int))) % 4294967296)) % 4294967296) bt322.1).bind fun t324 => (if x9.toList = t324.toList then (if x7.length < 35184372088832 then (listing_Read.l0 k x10 bt320.1 (x7 ++ [bt322.1]) x8) else (none)) else (some (0, ([] : List Int), x8, 22)))) else (some (0, ([] : List Int), x8, 22))) else (some (0, ([] : List Int), x8, 22))) else (if bt320.2 = true then (if bt322.2 = true then ((listing_Line.f k ((x6 + ((wrap64 (4 * (x7.length : Int))) % 4294967296)) % 4294967296) bt322.1).bind fun t328 => (if x9.toList = t328.toList then (if x7.length < 35184372088832 then (listing_Read.l0 k x10 x6 (x7 ++ [bt322.1]) x8) else (none)) else (some (0, ([] : List Int), x8, 22)))) else (some (0, ([] : List Int), x8, 22))) else (some (0, ([] : List Int), x8, 22))))) else (none)) else (none))) else (none)) else (none))
end
def listing_Read.f (k : Nat) (a0 : ByteArray) : Option (Int × List Int × Int × Int) := listing_Read.l0 k a0 0 ([] : List Int) 0
theorem listing_Read.mono_l : ∀ k, (∀ y0 y1 y2 y3, LeO (listing_Read.l0 k y0 y1 y2 y3) (listing_Read.l0 (k + 1) y0 y1 y2 y3)) ∧ (∀ y0 y1 y2 y3 y4 y5, LeO (listing_Read.j1 k y0 y1 y2 y3 y4 y5) (listing_Read.j1 (k + 1) y0 y1 y2 y3 y4 y5))
 | 0 => ⟨fun _ _ _ _ r h => by simp [listing_Read.l0] at h, fun _ _ _ _ _ _ r h => by simp [listing_Read.j1] at h⟩
 | k + 1 => by
  obtain ⟨ih0, ih1⟩ := listing_Read.mono_l k
  refine ⟨?_, ?_⟩
  ·
   intro y0 y1 y2 y3
   unfold listing_Read.l0
   repeat' first
   | (with_reducible exact ih0 _ _ _ _)
   | (with_reducible exact ih1 _ _ _ _ _ _)
   | (with_reducible exact listing_Line.mono _ _ _)
   | (with_reducible exact word_ParseHex.mono _ _)
   | (with_reducible exact LeO.refl _)
   | (with_reducible exact LeO.none _)
   | (with_reducible refine LeO.ite ?_ ?_)
   | (with_reducible refine LeO.bind ?_ (fun _ => ?_))
   | exact LeO.none _
   | refine LeO.ite ?_ ?_
   | refine LeO.bind ?_ (fun _ => ?_)
  ·
   intro y0 y1 y2 y3 y4 y5
   unfold listing_Read.j1
   repeat' first
   | (with_reducible exact ih0 _ _ _ _)
   | (with_reducible exact ih1 _ _ _ _ _ _)
   | (with_reducible exact listing_Line.mono _ _ _)
   | (with_reducible exact word_ParseHex.mono _ _)
   | (with_reducible exact LeO.refl _)
   | (with_reducible exact LeO.none _)
   | (with_reducible refine LeO.ite ?_ ?_)
   | (with_reducible refine LeO.bind ?_ (fun _ => ?_))
   | exact LeO.none _
   | refine LeO.ite ?_ ?_
   | refine LeO.bind ?_ (fun _ => ?_)
theorem listing_Read.mono : ∀ a0 k, LeO (listing_Read.f k a0) (listing_Read.f (k + 1) a0) := by
 intro a0 k
 obtain ⟨ih0, ih1⟩ := listing_Read.mono_l k
 unfold listing_Read.f
 repeat' first
  | (with_reducible exact ih0 _ _ _ _)
  | (with_reducible exact ih1 _ _ _ _ _ _)
  | (with_reducible exact listing_Line.mono _ _ _)
  | (with_reducible exact word_ParseHex.mono _ _)
  | (with_reducible exact LeO.refl _)
  | (with_reducible exact LeO.none _)
  | (with_reducible refine LeO.ite ?_ ?_)
  | (with_reducible refine LeO.bind ?_ (fun _ => ?_))
  | exact LeO.none _
  | refine LeO.ite ?_ ?_
  | refine LeO.bind ?_ (fun _ => ?_)
set_option maxHeartbeats 8000000 in
set_option maxRecDepth 100000 in
theorem listing_Read.calls (k : Nat) (a0 : ByteArray) (r1 : Int) (r2 : List Int) (r3 : Int) (r4 : Int) (w : World) (h : listing_Read.f k a0 = some (r1, r2, r3, r4)) :
 Calls Try.prog 13 #[.string a0] w fun e w' => ∃ v1_ : Value, e = .returned (.tuple #[.int .u32 r1, v1_, .int .i64 r3, .int .i64 r4]) ∧ Kd.R (Kd.int .u32) 22 w' w.heap.size (fun _ => True) v1_ r2 ∧ Below w.heap.size w w' := by
 have HB := mK (Below.refl w.heap.size w)
 have H : (listing_Read.l0 k a0 0 ([] : List Int) 0) = some (r1, r2, r3, r4) := h
 clear h
 have H' := mK H
 clear H
 go_enter Try.func13, Try.ntmps13
 go_wp2
 go_loopg [0, 6, 7, 8] k (fun kq v0 v6 v7 v8 w' => ∃ (x0_1 : ByteArray) (x6_1 : Int) (x7_1 : List Int) (x8_1 : Int), v0 = .string x0_1 ∧ v6 = .int .u32 x6_1 ∧ v8 = .int .i64 x8_1 ∧ Aside0 (listing_Read.l0 kq x0_1 x6_1 x7_1 x8_1 = some (r1, r2, r3, r4)) ∧ Aside0 (kq ≤ k) ∧ Aside0 (Kd.R (Kd.int .u32) 22 w' w.heap.size (fun _ => True) v7 x7_1) ∧ Aside0 (Below w.heap.size w w'))
 case atStart => exact ⟨(a0), (0), (([] : List Int)), (0), (by first | rfl | (simp; done) | (simp [*]; done)), (by first | rfl | (simp; done) | (simp [*]; done)), (by first | rfl | (simp; done) | (simp [*]; done)), H', ⟨Nat.le_refl _⟩, ⟨by first | exact Kd.R_nil _ _ _ _ _ | exact Kd.N_nil _ _ _ _ _ | exact Kd.V_nil _ _ _ _ _ | exact Kd.Q_nil _ _ _ _ _ | exact Kd.S_nil _ _ _ _ _⟩, ⟨by repeat (first | (with_reducible first | exact HB.out | apply bA | apply bN | apply bD) | exact HB.out)⟩⟩
 case round =>
  clear H'
  obtain ⟨x0_1, x6_1, x7_1, x8_1, rfl, rfl, rfl, HA, HK1, HO_7, HB⟩ := hrel
  cases gk with
  | zero => exact absurd HA.out (by simp [listing_Read.l0])
  | succ k1 =>
   have H := HA.out
   clear HA
   simp only [listing_Read.l0] at H
   by_cases c2 : (x0_1.size : Int) > 0
   ·
    rw [if_pos c2] at H
    have c2b0 : decide (0 < (x0_1.size : Int)) = true := decide_eq_true c2
    have c2b1 : decide (0 < x0_1.size) = true := decide_eq_true (by omega)
    clear c2
    replace H := oB H
    obtain ⟨⟨t317, t318, t319⟩, A30, H⟩ := H
    replace H : (if t319 = true then (listing_Read.j1 k1 x6_1 x7_1 (wrap64 (x8_1 + 1)) t317 t318 (decide ((t317.size : Int) < 17))) else (listing_Read.j1 k1 x6_1 x7_1 (wrap64 (x8_1 + 1)) t317 t318 true)) = some (r1, r2, r3, r4) := H
    have A3 := mK A30
    clear A30
    have HC4 := mK H
    clear H
    go_upto_region 7 with (first | ((with_reducible refine gate_callee (f := 28) rfl ?_); refine goesL_ (some 23) rfl rfl Try.func28 (by kernel_rfl) rfl #[.string x0_1, .string (⟨#[10]⟩ : ByteArray)] rfl (by (try simp only [List.map_toArray, List.map_cons, List.map_nil]); first | done | rfl) ?_; (with_reducible refine (strings_Cut.calls x0_1 (⟨#[10]⟩ : ByteArray) t317 t318 t319 _ A3.out).mono ?_); rintro e w' ⟨rfl, ⟨nd, rfl⟩⟩; refine ⟨_, rfl, ?_⟩))
    (try simp only [Act.put, List.setIfInBounds_toArray, List.set_cons_zero, List.set_cons_succ])
    go_cut [33] (fun v33 wc => ∃ (kq : Nat) (x33_3 : Bool), v33 = .bool x33_3 ∧ Aside0 (listing_Read.j1 kq x6_1 x7_1 (wrap64 (x8_1 + 1)) t317 t318 x33_3 = some (r1, r2, r3, r4)) ∧ Aside0 (kq ≤ k1) ∧ Aside0 (Kd.R (Kd.int .u32) 22 wc w.heap.size (fun _ => True) u7 x7_1) ∧ Aside0 (Below w.heap.size w wc))
    case first =>
     have H := HC4.out
     clear HC4
     by_cases c5 : t319 = true
     ·
      subst c5
      have H1 : (listing_Read.j1 k1 x6_1 x7_1 (wrap64 (x8_1 + 1)) t317 t318 (decide ((t317.size : Int) < 17))) = some (r1, r2, r3, r4) := by rw [if_pos rfl] at H; exact H
      clear H
      have H := H1
      clear H1
      have H' := mK H
      clear H
      go_wp2
      go_meet
      case rel => exact ⟨_, (decide ((t317.size : Int) < 17)), (by first | rfl | (simp; done) | (simp [*]; done)), H', ⟨by have := HK1.out; first | omega | exact Nat.le_refl _⟩, ⟨by (with_reducible repeat (first | apply Kd.R_alloc | apply Kd.R_drewN | apply Kd.R_drew)); exact HO_7.out⟩, ⟨by repeat (first | (with_reducible first | exact HB.out | apply bA | apply bN | apply bD) | exact HB.out)⟩⟩
     ·
      replace c5 := Bool.eq_false_iff.mpr c5
      subst c5
      have H1 : (listing_Read.j1 k1 x6_1 x7_1 (wrap64 (x8_1 + 1)) t317 t318 true) = some (r1, r2, r3, r4) := by rw [if_neg (show ¬ (false = true) by decide)] at H; exact H
      clear H
      have H := H1
      clear H1
      have H' := mK H
      clear H
      go_wp2
      go_meet
      case rel => exact ⟨_, (true), (by first | rfl | (simp; done) | (simp [*]; done)), H', ⟨by have := HK1.out; first | omega | exact Nat.le_refl _⟩, ⟨by (with_reducible repeat (first | apply Kd.R_alloc | apply Kd.R_drewN | apply Kd.R_drew)); exact HO_7.out⟩, ⟨by repeat (first | (with_reducible first | exact HB.out | apply bA | apply bN | apply bD) | exact HB.out)⟩⟩
    case rest =>
     clear HC4
     (try clear c2); (try clear c2b0); (try clear c2b1)
     obtain ⟨kq, x33_3, rfl, HA, HJ3, HO_7, HB⟩ := hcut
     cases kq with
     | zero => exact absurd HA.out (by simp [listing_Read.j1])
     | succ kj3 =>
      have H := HA.out
      clear HA
      simp only [listing_Read.j1] at H
      by_cases c6 : x33_3 = true
      ·
       subst c6
       have H1 : (some (0, ([] : List Int), (wrap64 (x8_1 + 1)), 22)) = some (r1, r2, r3, r4) := by rw [if_pos rfl] at H; exact H
       clear H
       have H := H1
       clear H1
       simp only [Option.some.injEq, Prod.mk.injEq] at H
       obtain ⟨rfl, rfl, rfl, rfl⟩ := H
       go_wp2
       refine bodyPost_ret (results_list (rs := [.tmp 2, .tmp 3, .tmp 4, .tmp 5]) rfl (by simp) (.tmp (.tmp (.tmp (.tmp .nil))))) rfl ?_
       exact ⟨_, by first | rfl | (simp [errW_none, errW_some] <;> rfl) | (simp [*, errW_none, errW_some] <;> rfl), by first | exact Kd.R_nil _ _ _ _ _ | exact Kd.N_nil _ _ _ _ _ | exact Kd.V_nil _ _ _ _ _ | exact Kd.Q_nil _ _ _ _ _ | exact Kd.S_nil _ _ _ _ _, by repeat (first | (with_reducible first | exact HB.out | apply bA | apply bN | apply bD) | exact HB.out)⟩
      ·
       replace c6 := Bool.eq_false_iff.mpr c6
       subst c6
       have H1 : (if 0 ≤ 8 then (if 8 ≤ (t317.size : Int) then ((word_ParseHex.f kj3 (t317.extract 0 8)).bind fun bt320 => (if 9 ≤ 17 then (if 17 ≤ (t317.size : Int) then ((word_ParseHex.f kj3 (t317.extract 9 17)).bind fun bt322 => (if (wrap64 (x8_1 + 1)) = 1 then (if bt320.2 = true then (if bt322.2 = true then ((listing_Line.f kj3 ((bt320.1 + ((wrap64 (4 * (x7_1.length : Int))) % 4294967296)) % 4294967296) bt322.1).bind fun t324 => (if t317.toList = t324.toList then (if x7_1.length < 35184372088832 then (listing_Read.l0 kj3 t318 bt320.1 (x7_1 ++ [bt322.1]) (wrap64 (x8_1 + 1))) else (none)) else (some (0, ([] : List Int), (wrap64 (x8_1 + 1)), 22)))) else (some (0, ([] : List Int), (wrap64 (x8_1 + 1)), 22))) else (some (0, ([] : List Int), (wrap64 (x8_1 + 1)), 22))) else (if bt320.2 = true then (if bt322.2 = true then ((listing_Line.f kj3 ((x6_1 + ((wrap64 (4 * (x7_1.length : Int))) % 4294967296)) % 4294967296) bt322.1).bind fun t328 => (if t317.toList = t328.toList then (if x7_1.length < 35184372088832 then (listing_Read.l0 kj3 t318 x6_1 (x7_1 ++ [bt322.1]) (wrap64 (x8_1 + 1))) else (none)) else (some (0, ([] : List Int), (wrap64 (x8_1 + 1)), 22)))) else (some (0, ([] : List Int), (wrap64 (x8_1 + 1)), 22))) else (some (0, ([] : List Int), (wrap64 (x8_1 + 1)), 22))))) else (none)) else (none))) else (none)) else (none)) = some (r1, r2, r3, r4) := by rw [if_neg (show ¬ (false = true) by decide)] at H; exact H
       clear H
       have H := H1
       clear H1
       by_cases c7 : 0 ≤ 8
       ·
        rw [if_pos c7] at H
        have c7b0 := eq_true c7
        have c7b1 : decide (0 ≤ 8) = true := decide_eq_true c7
        clear c7
        by_cases c8 : 8 ≤ (t317.size : Int)
        ·
         rw [if_pos c8] at H
         have c8b0 := eq_true c8
         have c8b1 : decide (8 ≤ (t317.size : Int)) = true := decide_eq_true c8
         clear c8
         replace H := oB H
         obtain ⟨⟨t320, t321⟩, A90, H⟩ := H
         replace H : (if 9 ≤ 17 then (if 17 ≤ (t317.size : Int) then ((word_ParseHex.f kj3 (t317.extract 9 17)).bind fun bt322 => (if (wrap64 (x8_1 + 1)) = 1 then (if t321 = true then (if bt322.2 = true then ((listing_Line.f kj3 ((t320 + ((wrap64 (4 * (x7_1.length : Int))) % 4294967296)) % 4294967296) bt322.1).bind fun t324 => (if t317.toList = t324.toList then (if x7_1.length < 35184372088832 then (listing_Read.l0 kj3 t318 t320 (x7_1 ++ [bt322.1]) (wrap64 (x8_1 + 1))) else (none)) else (some (0, ([] : List Int), (wrap64 (x8_1 + 1)), 22)))) else (some (0, ([] : List Int), (wrap64 (x8_1 + 1)), 22))) else (some (0, ([] : List Int), (wrap64 (x8_1 + 1)), 22))) else (if t321 = true then (if bt322.2 = true then ((listing_Line.f kj3 ((x6_1 + ((wrap64 (4 * (x7_1.length : Int))) % 4294967296)) % 4294967296) bt322.1).bind fun t328 => (if t317.toList = t328.toList then (if x7_1.length < 35184372088832 then (listing_Read.l0 kj3 t318 x6_1 (x7_1 ++ [bt322.1]) (wrap64 (x8_1 + 1))) else (none)) else (some (0, ([] : List Int), (wrap64 (x8_1 + 1)), 22)))) else (some (0, ([] : List Int), (wrap64 (x8_1 + 1)), 22))) else (some (0, ([] : List Int), (wrap64 (x8_1 + 1)), 22))))) else (none)) else (none)) = some (r1, r2, r3, r4) := H
         have A9 := mK A90
         clear A90
         by_cases c10 : 9 ≤ 17
         ·
          rw [if_pos c10] at H
          have c10b0 := eq_true c10
          have c10b1 : decide (9 ≤ 17) = true := decide_eq_true c10
          clear c10
          by_cases c11 : 17 ≤ (t317.size : Int)
          ·
           rw [if_pos c11] at H
           have c11b0 := eq_true c11
           have c11b1 : decide (17 ≤ (t317.size : Int)) = true := decide_eq_true c11
           clear c11
           replace H := oB H
           obtain ⟨⟨t322, t323⟩, A120, H⟩ := H
           replace H : (if (wrap64 (x8_1 + 1)) = 1 then (if t321 = true then (if t323 = true then ((listing_Line.f kj3 ((t320 + ((wrap64 (4 * (x7_1.length : Int))) % 4294967296)) % 4294967296) t322).bind fun t324 => (if t317.toList = t324.toList then (if x7_1.length < 35184372088832 then (listing_Read.l0 kj3 t318 t320 (x7_1 ++ [t322]) (wrap64 (x8_1 + 1))) else (none)) else (some (0, ([] : List Int), (wrap64 (x8_1 + 1)), 22)))) else (some (0, ([] : List Int), (wrap64 (x8_1 + 1)), 22))) else (some (0, ([] : List Int), (wrap64 (x8_1 + 1)), 22))) else (if t321 = true then (if t323 = true then ((listing_Line.f kj3 ((x6_1 + ((wrap64 (4 * (x7_1.length : Int))) % 4294967296)) % 4294967296) t322).bind fun t328 => (if t317.toList = t328.toList then (if x7_1.length < 35184372088832 then (listing_Read.l0 kj3 t318 x6_1 (x7_1 ++ [t322]) (wrap64 (x8_1 + 1))) else (none)) else (some (0, ([] : List Int), (wrap64 (x8_1 + 1)), 22)))) else (some (0, ([] : List Int), (wrap64 (x8_1 + 1)), 22))) else (some (0, ([] : List Int), (wrap64 (x8_1 + 1)), 22)))) = some (r1, r2, r3, r4) := H
           have A12 := mK A120
           clear A120
           by_cases c13 : (wrap64 (x8_1 + 1)) = 1
           ·
            rw [if_pos c13] at H
            have c13b0 : ((wrap64 (x8_1 + 1)) == 1) = true := beq_iff_eq.mpr c13
            have c13b1 : ((wrap64 (x8_1 + 1)) != 1) = false := bR c13
            clear c13
            by_cases c14 : t321 = true
            ·
             subst c14
             have H1 : (if t323 = true then ((listing_Line.f kj3 ((t320 + ((wrap64 (4 * (x7_1.length : Int))) % 4294967296)) % 4294967296) t322).bind fun t324 => (if t317.toList = t324.toList then (if x7_1.length < 35184372088832 then (listing_Read.l0 kj3 t318 t320 (x7_1 ++ [t322]) (wrap64 (x8_1 + 1))) else (none)) else (some (0, ([] : List Int), (wrap64 (x8_1 + 1)), 22)))) else (some (0, ([] : List Int), (wrap64 (x8_1 + 1)), 22))) = some (r1, r2, r3, r4) := by rw [if_pos rfl] at H; exact H
             clear H
             have H := H1
             clear H1
             by_cases c15 : t323 = true
             ·
              subst c15
              have H1 : ((listing_Line.f kj3 ((t320 + ((wrap64 (4 * (x7_1.length : Int))) % 4294967296)) % 4294967296) t322).bind fun t324 => (if t317.toList = t324.toList then (if x7_1.length < 35184372088832 then (listing_Read.l0 kj3 t318 t320 (x7_1 ++ [t322]) (wrap64 (x8_1 + 1))) else (none)) else (some (0, ([] : List Int), (wrap64 (x8_1 + 1)), 22)))) = some (r1, r2, r3, r4) := by rw [if_pos rfl] at H; exact H
              clear H
              have H := H1
              clear H1
              replace H := oB H
              obtain ⟨t324, A160, H⟩ := H
              replace H : (if t317.toList = t324.toList then (if x7_1.length < 35184372088832 then (listing_Read.l0 kj3 t318 t320 (x7_1 ++ [t322]) (wrap64 (x8_1 + 1))) else (none)) else (some (0, ([] : List Int), (wrap64 (x8_1 + 1)), 22))) = some (r1, r2, r3, r4) := H
              have A16 := mK A160
              clear A160
              by_cases c17 : t317.toList = t324.toList
              ·
               rw [if_pos c17] at H
               have c17b0 : (t317.toList == t324.toList) = true := beq_iff_eq.mpr c17
               have c17b1 : (t317.toList != t324.toList) = false := bR c17
               clear c17
               by_cases c18 : x7_1.length < 35184372088832
               ·
                rw [if_pos c18] at H
                have LMc18 := mK c18
                clear c18
                obtain ⟨y325, hy325⟩ : ∃ y_ : List Int, y_ = (x7_1 ++ [t322]) := ⟨_, rfl⟩
                replace H : (listing_Read.l0 kj3 t318 t320 y325 (wrap64 (x8_1 + 1))) = some (r1, r2, r3, r4) := by first | (rw [hy325]; with_reducible exact H) | (have H2_ := (Option.bind_some _ _).symm.trans H; rw [hy325]; with_reducible exact H2_) | (have H2_ := (Option.bind_some _ _).symm.trans H; with_reducible exact H2_) | with_reducible exact H | (rw [hy325]; exact H) | exact H
                have Ny325 := mK hy325
                clear hy325
                have H' := mK H
                clear H
                go_wp2_with (first | ((with_reducible refine gate_callee (f := 29) rfl ?_); refine goesL_ (some 38) rfl rfl Try.func29 (by kernel_rfl) rfl #[.string (t317.extract 0 8)] rfl (by (try simp only [List.map_toArray, List.map_cons, List.map_nil]); first | done | rfl) ?_; (with_reducible refine (word_ParseHex.calls kj3 (t317.extract 0 8) t320 true _ A9.out).mono ?_); rintro e w' ⟨rfl, ⟨nd, rfl⟩⟩; refine ⟨_, rfl, ?_⟩) | ((with_reducible refine gate_callee (f := 29) rfl ?_); refine goesL_ (some 44) rfl rfl Try.func29 (by kernel_rfl) rfl #[.string (t317.extract 9 17)] rfl (by (try simp only [List.map_toArray, List.map_cons, List.map_nil]); first | done | rfl) ?_; (with_reducible refine (word_ParseHex.calls kj3 (t317.extract 9 17) t322 true _ A12.out).mono ?_); rintro e w' ⟨rfl, ⟨nd, rfl⟩⟩; refine ⟨_, rfl, ?_⟩; obtain ⟨Ao19, co19, eo19⟩ := Kd.R_slice HO_7.out; subst eo19) | (go_at_call 9; (with_reducible refine (listing_Line.calls kj3 ((t320 + wrap64 (4 * (x7_1.length : Int))) % 4294967296) t322 t324 _ (by have h_ := A16.out; rw [show ((t320 + ((wrap64 (4 * (x7_1.length : Int))) % 4294967296)) % 4294967296) = ((t320 + wrap64 (4 * (x7_1.length : Int))) % 4294967296) by omega] at h_; exact h_)).mono ?_); rintro e w20 ⟨rfl, hb⟩; have n0_ := mK (Kd.R_below (by (with_reducible repeat (first | apply Kd.R_alloc | apply Kd.R_drewN | apply Kd.R_drew)); exact HO_7.out) hb); have n1_ := mK (bP (by repeat (first | (with_reducible first | exact HB.out | apply bA | apply bN | apply bD) | exact HB.out)) hb); clear HO_7; clear HB; have HO_7 := n0_; have HB := n1_; clear n0_ n1_; (try clear hb); (try clear hk)) | ((with_reducible refine gate_builtin (b := .append) (xs := #[.tmp 69, .tmp 71]) rfl ?_); (try (refine gate_guard (by rfl) ?_; dsimp only)); at_builtin; refine Kd.R_append (Kd.int .u32) (w0 := w) w.heap.size rfl (.tmp 69) (.tmp 71) 30 22 (.int .u32 0) 4 rfl Try.underlying30 info22 rfl (by decide) (by omega) (.slice Ao19 x7_1.length co19) x7_1 t322 [.int .u32 t322] (fun _ => True) (fun _ => False) rfl rfl ?aP (fun _ hk => hk.elim) ?aF ?aO ?aB ?aS ?aL ?_; (case aP => exact rfl); (case aB => exact (by repeat (first | (with_reducible first | exact HB.out | apply bA | apply bN | apply bD) | exact HB.out))); (case aF => exact (fun _ _ => trivial)); (case aO => exact (by (with_reducible repeat (first | apply Kd.R_alloc | apply Kd.R_drewN | apply Kd.R_drew)); exact HO_7.out)); (case aS => exact (bZ (by repeat (first | (with_reducible first | exact HB.out | apply bA | apply bN | apply bD) | exact HB.out)))); (case aL => have := LMc18.out; omega); intro v326 w21 ho hb hg hat; rw [← Ny325.out] at ho; have n0_ := mK (hb); have n1_ := mK (ho); clear HB; clear HO_7; have HB := n0_; have HO327 := n1_; clear n0_ n1_; clear ho hb hg hat))
                go_roundg kj3
                case measure => have := HK1.out; have := HJ3.out; omega
                case rel => exact ⟨(t318), (t320), (y325), ((wrap64 (x8_1 + 1))), (by first | rfl | (simp; done) | (simp [*]; done)), (by first | rfl | (simp; done) | (simp [*]; done)), (by first | rfl | (simp; done) | (simp [*]; done)), H', ⟨by have := HK1.out; have := HJ3.out; omega⟩, ⟨by (with_reducible repeat (first | apply Kd.R_alloc | apply Kd.R_drewN | apply Kd.R_drew)); exact HO327.out⟩, ⟨by repeat (first | (with_reducible first | exact HB.out | apply bA | apply bN | apply bD) | exact HB.out)⟩⟩
               ·
                rw [if_neg c18] at H
                exact absurd H (by simp)
              ·
               rw [if_neg c17] at H
               have c17b0 : (t317.toList == t324.toList) = false := bQ c17
               have c17b1 : (t317.toList != t324.toList) = true := bne_iff_ne.mpr c17
               simp only [Option.some.injEq, Prod.mk.injEq] at H
               obtain ⟨rfl, rfl, rfl, rfl⟩ := H
               go_wp2_with (first | ((with_reducible refine gate_callee (f := 29) rfl ?_); refine goesL_ (some 38) rfl rfl Try.func29 (by kernel_rfl) rfl #[.string (t317.extract 0 8)] rfl (by (try simp only [List.map_toArray, List.map_cons, List.map_nil]); first | done | rfl) ?_; (with_reducible refine (word_ParseHex.calls kj3 (t317.extract 0 8) t320 true _ A9.out).mono ?_); rintro e w' ⟨rfl, ⟨nd, rfl⟩⟩; refine ⟨_, rfl, ?_⟩) | ((with_reducible refine gate_callee (f := 29) rfl ?_); refine goesL_ (some 44) rfl rfl Try.func29 (by kernel_rfl) rfl #[.string (t317.extract 9 17)] rfl (by (try simp only [List.map_toArray, List.map_cons, List.map_nil]); first | done | rfl) ?_; (with_reducible refine (word_ParseHex.calls kj3 (t317.extract 9 17) t322 true _ A12.out).mono ?_); rintro e w' ⟨rfl, ⟨nd, rfl⟩⟩; refine ⟨_, rfl, ?_⟩; obtain ⟨Ao22, co22, eo22⟩ := Kd.R_slice HO_7.out; subst eo22) | (go_at_call 9; (with_reducible refine (listing_Line.calls kj3 ((t320 + wrap64 (4 * (x7_1.length : Int))) % 4294967296) t322 t324 _ (by have h_ := A16.out; rw [show ((t320 + ((wrap64 (4 * (x7_1.length : Int))) % 4294967296)) % 4294967296) = ((t320 + wrap64 (4 * (x7_1.length : Int))) % 4294967296) by omega] at h_; exact h_)).mono ?_); rintro e w23 ⟨rfl, hb⟩; have n0_ := mK (Kd.R_below (by (with_reducible repeat (first | apply Kd.R_alloc | apply Kd.R_drewN | apply Kd.R_drew)); exact HO_7.out) hb); have n1_ := mK (bP (by repeat (first | (with_reducible first | exact HB.out | apply bA | apply bN | apply bD) | exact HB.out)) hb); clear HO_7; clear HB; have HO_7 := n0_; have HB := n1_; clear n0_ n1_; (try clear hb)))
               refine bodyPost_ret (results_list (rs := [.tmp 2, .tmp 3, .tmp 4, .tmp 5]) rfl (by simp) (.tmp (.tmp (.tmp (.tmp .nil))))) rfl ?_
               exact ⟨_, by first | rfl | (simp [errW_none, errW_some] <;> rfl) | (simp [*, errW_none, errW_some] <;> rfl), by first | exact Kd.R_nil _ _ _ _ _ | exact Kd.N_nil _ _ _ _ _ | exact Kd.V_nil _ _ _ _ _ | exact Kd.Q_nil _ _ _ _ _ | exact Kd.S_nil _ _ _ _ _, by repeat (first | (with_reducible first | exact HB.out | apply bA | apply bN | apply bD) | exact HB.out)⟩
             ·
              replace c15 := Bool.eq_false_iff.mpr c15
              subst c15
              have H1 : (some (0, ([] : List Int), (wrap64 (x8_1 + 1)), 22)) = some (r1, r2, r3, r4) := by rw [if_neg (show ¬ (false = true) by decide)] at H; exact H
              clear H
              have H := H1
              clear H1
              simp only [Option.some.injEq, Prod.mk.injEq] at H
              obtain ⟨rfl, rfl, rfl, rfl⟩ := H
              go_wp2_with (first | ((with_reducible refine gate_callee (f := 29) rfl ?_); refine goesL_ (some 38) rfl rfl Try.func29 (by kernel_rfl) rfl #[.string (t317.extract 0 8)] rfl (by (try simp only [List.map_toArray, List.map_cons, List.map_nil]); first | done | rfl) ?_; (with_reducible refine (word_ParseHex.calls kj3 (t317.extract 0 8) t320 true _ A9.out).mono ?_); rintro e w' ⟨rfl, ⟨nd, rfl⟩⟩; refine ⟨_, rfl, ?_⟩) | ((with_reducible refine gate_callee (f := 29) rfl ?_); refine goesL_ (some 44) rfl rfl Try.func29 (by kernel_rfl) rfl #[.string (t317.extract 9 17)] rfl (by (try simp only [List.map_toArray, List.map_cons, List.map_nil]); first | done | rfl) ?_; (with_reducible refine (word_ParseHex.calls kj3 (t317.extract 9 17) t322 false _ A12.out).mono ?_); rintro e w' ⟨rfl, ⟨nd, rfl⟩⟩; refine ⟨_, rfl, ?_⟩))
              refine bodyPost_ret (results_list (rs := [.tmp 2, .tmp 3, .tmp 4, .tmp 5]) rfl (by simp) (.tmp (.tmp (.tmp (.tmp .nil))))) rfl ?_
              exact ⟨_, by first | rfl | (simp [errW_none, errW_some] <;> rfl) | (simp [*, errW_none, errW_some] <;> rfl), by first | exact Kd.R_nil _ _ _ _ _ | exact Kd.N_nil _ _ _ _ _ | exact Kd.V_nil _ _ _ _ _ | exact Kd.Q_nil _ _ _ _ _ | exact Kd.S_nil _ _ _ _ _, by repeat (first | (with_reducible first | exact HB.out | apply bA | apply bN | apply bD) | exact HB.out)⟩
            ·
             replace c14 := Bool.eq_false_iff.mpr c14
             subst c14
             have H1 : (some (0, ([] : List Int), (wrap64 (x8_1 + 1)), 22)) = some (r1, r2, r3, r4) := by rw [if_neg (show ¬ (false = true) by decide)] at H; exact H
             clear H
             have H := H1
             clear H1
             simp only [Option.some.injEq, Prod.mk.injEq] at H
             obtain ⟨rfl, rfl, rfl, rfl⟩ := H
             go_wp2_with (first | ((with_reducible refine gate_callee (f := 29) rfl ?_); refine goesL_ (some 38) rfl rfl Try.func29 (by kernel_rfl) rfl #[.string (t317.extract 0 8)] rfl (by (try simp only [List.map_toArray, List.map_cons, List.map_nil]); first | done | rfl) ?_; (with_reducible refine (word_ParseHex.calls kj3 (t317.extract 0 8) t320 false _ A9.out).mono ?_); rintro e w' ⟨rfl, ⟨nd, rfl⟩⟩; refine ⟨_, rfl, ?_⟩) | ((with_reducible refine gate_callee (f := 29) rfl ?_); refine goesL_ (some 44) rfl rfl Try.func29 (by kernel_rfl) rfl #[.string (t317.extract 9 17)] rfl (by (try simp only [List.map_toArray, List.map_cons, List.map_nil]); first | done | rfl) ?_; (with_reducible refine (word_ParseHex.calls kj3 (t317.extract 9 17) t322 t323 _ A12.out).mono ?_); rintro e w' ⟨rfl, ⟨nd, rfl⟩⟩; refine ⟨_, rfl, ?_⟩))
             refine bodyPost_ret (results_list (rs := [.tmp 2, .tmp 3, .tmp 4, .tmp 5]) rfl (by simp) (.tmp (.tmp (.tmp (.tmp .nil))))) rfl ?_
             exact ⟨_, by first | rfl | (simp [errW_none, errW_some] <;> rfl) | (simp [*, errW_none, errW_some] <;> rfl), by first | exact Kd.R_nil _ _ _ _ _ | exact Kd.N_nil _ _ _ _ _ | exact Kd.V_nil _ _ _ _ _ | exact Kd.Q_nil _ _ _ _ _ | exact Kd.S_nil _ _ _ _ _, by repeat (first | (with_reducible first | exact HB.out | apply bA | apply bN | apply bD) | exact HB.out)⟩
           ·
            rw [if_neg c13] at H
            have c13b0 : ((wrap64 (x8_1 + 1)) == 1) = false := bQ c13
            have c13b1 : ((wrap64 (x8_1 + 1)) != 1) = true := bne_iff_ne.mpr c13
            by_cases c24 : t321 = true
            ·
             subst c24
             have H1 : (if t323 = true then ((listing_Line.f kj3 ((x6_1 + ((wrap64 (4 * (x7_1.length : Int))) % 4294967296)) % 4294967296) t322).bind fun t328 => (if t317.toList = t328.toList then (if x7_1.length < 35184372088832 then (listing_Read.l0 kj3 t318 x6_1 (x7_1 ++ [t322]) (wrap64 (x8_1 + 1))) else (none)) else (some (0, ([] : List Int), (wrap64 (x8_1 + 1)), 22)))) else (some (0, ([] : List Int), (wrap64 (x8_1 + 1)), 22))) = some (r1, r2, r3, r4) := by rw [if_pos rfl] at H; exact H
             clear H
             have H := H1
             clear H1
             by_cases c25 : t323 = true
             ·
              subst c25
              have H1 : ((listing_Line.f kj3 ((x6_1 + ((wrap64 (4 * (x7_1.length : Int))) % 4294967296)) % 4294967296) t322).bind fun t328 => (if t317.toList = t328.toList then (if x7_1.length < 35184372088832 then (listing_Read.l0 kj3 t318 x6_1 (x7_1 ++ [t322]) (wrap64 (x8_1 + 1))) else (none)) else (some (0, ([] : List Int), (wrap64 (x8_1 + 1)), 22)))) = some (r1, r2, r3, r4) := by rw [if_pos rfl] at H; exact H
              clear H
              have H := H1
              clear H1
              replace H := oB H
              obtain ⟨t328, A260, H⟩ := H
              replace H : (if t317.toList = t328.toList then (if x7_1.length < 35184372088832 then (listing_Read.l0 kj3 t318 x6_1 (x7_1 ++ [t322]) (wrap64 (x8_1 + 1))) else (none)) else (some (0, ([] : List Int), (wrap64 (x8_1 + 1)), 22))) = some (r1, r2, r3, r4) := H
              have A26 := mK A260
              clear A260
              by_cases c27 : t317.toList = t328.toList
              ·
               rw [if_pos c27] at H
               have c27b0 : (t317.toList == t328.toList) = true := beq_iff_eq.mpr c27
               have c27b1 : (t317.toList != t328.toList) = false := bR c27
               clear c27
               by_cases c28 : x7_1.length < 35184372088832
               ·
                rw [if_pos c28] at H
                have LMc28 := mK c28
                clear c28
                obtain ⟨y329, hy329⟩ : ∃ y_ : List Int, y_ = (x7_1 ++ [t322]) := ⟨_, rfl⟩
                replace H : (listing_Read.l0 kj3 t318 x6_1 y329 (wrap64 (x8_1 + 1))) = some (r1, r2, r3, r4) := by first | (rw [hy329]; with_reducible exact H) | (have H2_ := (Option.bind_some _ _).symm.trans H; rw [hy329]; with_reducible exact H2_) | (have H2_ := (Option.bind_some _ _).symm.trans H; with_reducible exact H2_) | with_reducible exact H | (rw [hy329]; exact H) | exact H
                have Ny329 := mK hy329
                clear hy329
                have H' := mK H
                clear H
                go_wp2_with (first | ((with_reducible refine gate_callee (f := 29) rfl ?_); refine goesL_ (some 38) rfl rfl Try.func29 (by kernel_rfl) rfl #[.string (t317.extract 0 8)] rfl (by (try simp only [List.map_toArray, List.map_cons, List.map_nil]); first | done | rfl) ?_; (with_reducible refine (word_ParseHex.calls kj3 (t317.extract 0 8) t320 true _ A9.out).mono ?_); rintro e w' ⟨rfl, ⟨nd, rfl⟩⟩; refine ⟨_, rfl, ?_⟩) | ((with_reducible refine gate_callee (f := 29) rfl ?_); refine goesL_ (some 44) rfl rfl Try.func29 (by kernel_rfl) rfl #[.string (t317.extract 9 17)] rfl (by (try simp only [List.map_toArray, List.map_cons, List.map_nil]); first | done | rfl) ?_; (with_reducible refine (word_ParseHex.calls kj3 (t317.extract 9 17) t322 true _ A12.out).mono ?_); rintro e w' ⟨rfl, ⟨nd, rfl⟩⟩; refine ⟨_, rfl, ?_⟩; obtain ⟨Ao29, co29, eo29⟩ := Kd.R_slice HO_7.out; subst eo29) | (go_at_call 9; (with_reducible refine (listing_Line.calls kj3 ((x6_1 + wrap64 (4 * (x7_1.length : Int))) % 4294967296) t322 t328 _ (by have h_ := A26.out; rw [show ((x6_1 + ((wrap64 (4 * (x7_1.length : Int))) % 4294967296)) % 4294967296) = ((x6_1 + wrap64 (4 * (x7_1.length : Int))) % 4294967296) by omega] at h_; exact h_)).mono ?_); rintro e w30 ⟨rfl, hb⟩; have n0_ := mK (Kd.R_below (by (with_reducible repeat (first | apply Kd.R_alloc | apply Kd.R_drewN | apply Kd.R_drew)); exact HO_7.out) hb); have n1_ := mK (bP (by repeat (first | (with_reducible first | exact HB.out | apply bA | apply bN | apply bD) | exact HB.out)) hb); clear HO_7; clear HB; have HO_7 := n0_; have HB := n1_; clear n0_ n1_; (try clear hb); (try clear hk)) | ((with_reducible refine gate_builtin (b := .append) (xs := #[.tmp 69, .tmp 71]) rfl ?_); (try (refine gate_guard (by rfl) ?_; dsimp only)); at_builtin; refine Kd.R_append (Kd.int .u32) (w0 := w) w.heap.size rfl (.tmp 69) (.tmp 71) 30 22 (.int .u32 0) 4 rfl Try.underlying30 info22 rfl (by decide) (by omega) (.slice Ao29 x7_1.length co29) x7_1 t322 [.int .u32 t322] (fun _ => True) (fun _ => False) rfl rfl ?aP (fun _ hk => hk.elim) ?aF ?aO ?aB ?aS ?aL ?_; (case aP => exact rfl); (case aB => exact (by repeat (first | (with_reducible first | exact HB.out | apply bA | apply bN | apply bD) | exact HB.out))); (case aF => exact (fun _ _ => trivial)); (case aO => exact (by (with_reducible repeat (first | apply Kd.R_alloc | apply Kd.R_drewN | apply Kd.R_drew)); exact HO_7.out)); (case aS => exact (bZ (by repeat (first | (with_reducible first | exact HB.out | apply bA | apply bN | apply bD) | exact HB.out)))); (case aL => have := LMc28.out; omega); intro v330 w31 ho hb hg hat; rw [← Ny329.out] at ho; have n0_ := mK (hb); have n1_ := mK (ho); clear HB; clear HO_7; have HB := n0_; have HO331 := n1_; clear n0_ n1_; clear ho hb hg hat))
                go_roundg kj3
                case measure => have := HK1.out; have := HJ3.out; omega
                case rel => exact ⟨(t318), (x6_1), (y329), ((wrap64 (x8_1 + 1))), (by first | rfl | (simp; done) | (simp [*]; done)), (by first | rfl | (simp; done) | (simp [*]; done)), (by first | rfl | (simp; done) | (simp [*]; done)), H', ⟨by have := HK1.out; have := HJ3.out; omega⟩, ⟨by (with_reducible repeat (first | apply Kd.R_alloc | apply Kd.R_drewN | apply Kd.R_drew)); exact HO331.out⟩, ⟨by repeat (first | (with_reducible first | exact HB.out | apply bA | apply bN | apply bD) | exact HB.out)⟩⟩
               ·
                rw [if_neg c28] at H
                exact absurd H (by simp)
              ·
               rw [if_neg c27] at H
               have c27b0 : (t317.toList == t328.toList) = false := bQ c27
               have c27b1 : (t317.toList != t328.toList) = true := bne_iff_ne.mpr c27
               simp only [Option.some.injEq, Prod.mk.injEq] at H
               obtain ⟨rfl, rfl, rfl, rfl⟩ := H
               go_wp2_with (first | ((with_reducible refine gate_callee (f := 29) rfl ?_); refine goesL_ (some 38) rfl rfl Try.func29 (by kernel_rfl) rfl #[.string (t317.extract 0 8)] rfl (by (try simp only [List.map_toArray, List.map_cons, List.map_nil]); first | done | rfl) ?_; (with_reducible refine (word_ParseHex.calls kj3 (t317.extract 0 8) t320 true _ A9.out).mono ?_); rintro e w' ⟨rfl, ⟨nd, rfl⟩⟩; refine ⟨_, rfl, ?_⟩) | ((with_reducible refine gate_callee (f := 29) rfl ?_); refine goesL_ (some 44) rfl rfl Try.func29 (by kernel_rfl) rfl #[.string (t317.extract 9 17)] rfl (by (try simp only [List.map_toArray, List.map_cons, List.map_nil]); first | done | rfl) ?_; (with_reducible refine (word_ParseHex.calls kj3 (t317.extract 9 17) t322 true _ A12.out).mono ?_); rintro e w' ⟨rfl, ⟨nd, rfl⟩⟩; refine ⟨_, rfl, ?_⟩; obtain ⟨Ao32, co32, eo32⟩ := Kd.R_slice HO_7.out; subst eo32) | (go_at_call 9; (with_reducible refine (listing_Line.calls kj3 ((x6_1 + wrap64 (4 * (x7_1.length : Int))) % 4294967296) t322 t328 _ (by have h_ := A26.out; rw [show ((x6_1 + ((wrap64 (4 * (x7_1.length : Int))) % 4294967296)) % 4294967296) = ((x6_1 + wrap64 (4 * (x7_1.length : Int))) % 4294967296) by omega] at h_; exact h_)).mono ?_); rintro e w33 ⟨rfl, hb⟩; have n0_ := mK (Kd.R_below (by (with_reducible repeat (first | apply Kd.R_alloc | apply Kd.R_drewN | apply Kd.R_drew)); exact HO_7.out) hb); have n1_ := mK (bP (by repeat (first | (with_reducible first | exact HB.out | apply bA | apply bN | apply bD) | exact HB.out)) hb); clear HO_7; clear HB; have HO_7 := n0_; have HB := n1_; clear n0_ n1_; (try clear hb)))
               refine bodyPost_ret (results_list (rs := [.tmp 2, .tmp 3, .tmp 4, .tmp 5]) rfl (by simp) (.tmp (.tmp (.tmp (.tmp .nil))))) rfl ?_
               exact ⟨_, by first | rfl | (simp [errW_none, errW_some] <;> rfl) | (simp [*, errW_none, errW_some] <;> rfl), by first | exact Kd.R_nil _ _ _ _ _ | exact Kd.N_nil _ _ _ _ _ | exact Kd.V_nil _ _ _ _ _ | exact Kd.Q_nil _ _ _ _ _ | exact Kd.S_nil _ _ _ _ _, by repeat (first | (with_reducible first | exact HB.out | apply bA | apply bN | apply bD) | exact HB.out)⟩
             ·
              replace c25 := Bool.eq_false_iff.mpr c25
              subst c25
              have H1 : (some (0, ([] : List Int), (wrap64 (x8_1 + 1)), 22)) = some (r1, r2, r3, r4) := by rw [if_neg (show ¬ (false = true) by decide)] at H; exact H
              clear H
              have H := H1
              clear H1
              simp only [Option.some.injEq, Prod.mk.injEq] at H
              obtain ⟨rfl, rfl, rfl, rfl⟩ := H
              go_wp2_with (first | ((with_reducible refine gate_callee (f := 29) rfl ?_); refine goesL_ (some 38) rfl rfl Try.func29 (by kernel_rfl) rfl #[.string (t317.extract 0 8)] rfl (by (try simp only [List.map_toArray, List.map_cons, List.map_nil]); first | done | rfl) ?_; (with_reducible refine (word_ParseHex.calls kj3 (t317.extract 0 8) t320 true _ A9.out).mono ?_); rintro e w' ⟨rfl, ⟨nd, rfl⟩⟩; refine ⟨_, rfl, ?_⟩) | ((with_reducible refine gate_callee (f := 29) rfl ?_); refine goesL_ (some 44) rfl rfl Try.func29 (by kernel_rfl) rfl #[.string (t317.extract 9 17)] rfl (by (try simp only [List.map_toArray, List.map_cons, List.map_nil]); first | done | rfl) ?_; (with_reducible refine (word_ParseHex.calls kj3 (t317.extract 9 17) t322 false _ A12.out).mono ?_); rintro e w' ⟨rfl, ⟨nd, rfl⟩⟩; refine ⟨_, rfl, ?_⟩))
              refine bodyPost_ret (results_list (rs := [.tmp 2, .tmp 3, .tmp 4, .tmp 5]) rfl (by simp) (.tmp (.tmp (.tmp (.tmp .nil))))) rfl ?_
              exact ⟨_, by first | rfl | (simp [errW_none, errW_some] <;> rfl) | (simp [*, errW_none, errW_some] <;> rfl), by first | exact Kd.R_nil _ _ _ _ _ | exact Kd.N_nil _ _ _ _ _ | exact Kd.V_nil _ _ _ _ _ | exact Kd.Q_nil _ _ _ _ _ | exact Kd.S_nil _ _ _ _ _, by repeat (first | (with_reducible first | exact HB.out | apply bA | apply bN | apply bD) | exact HB.out)⟩
            ·
             replace c24 := Bool.eq_false_iff.mpr c24
             subst c24
             have H1 : (some (0, ([] : List Int), (wrap64 (x8_1 + 1)), 22)) = some (r1, r2, r3, r4) := by rw [if_neg (show ¬ (false = true) by decide)] at H; exact H
             clear H
             have H := H1
             clear H1
             simp only [Option.some.injEq, Prod.mk.injEq] at H
             obtain ⟨rfl, rfl, rfl, rfl⟩ := H
             go_wp2_with (first | ((with_reducible refine gate_callee (f := 29) rfl ?_); refine goesL_ (some 38) rfl rfl Try.func29 (by kernel_rfl) rfl #[.string (t317.extract 0 8)] rfl (by (try simp only [List.map_toArray, List.map_cons, List.map_nil]); first | done | rfl) ?_; (with_reducible refine (word_ParseHex.calls kj3 (t317.extract 0 8) t320 false _ A9.out).mono ?_); rintro e w' ⟨rfl, ⟨nd, rfl⟩⟩; refine ⟨_, rfl, ?_⟩) | ((with_reducible refine gate_callee (f := 29) rfl ?_); refine goesL_ (some 44) rfl rfl Try.func29 (by kernel_rfl) rfl #[.string (t317.extract 9 17)] rfl (by (try simp only [List.map_toArray, List.map_cons, List.map_nil]); first | done | rfl) ?_; (with_reducible refine (word_ParseHex.calls kj3 (t317.extract 9 17) t322 t323 _ A12.out).mono ?_); rintro e w' ⟨rfl, ⟨nd, rfl⟩⟩; refine ⟨_, rfl, ?_⟩))
             refine bodyPost_ret (results_list (rs := [.tmp 2, .tmp 3, .tmp 4, .tmp 5]) rfl (by simp) (.tmp (.tmp (.tmp (.tmp .nil))))) rfl ?_
             exact ⟨_, by first | rfl | (simp [errW_none, errW_some] <;> rfl) | (simp [*, errW_none, errW_some] <;> rfl), by first | exact Kd.R_nil _ _ _ _ _ | exact Kd.N_nil _ _ _ _ _ | exact Kd.V_nil _ _ _ _ _ | exact Kd.Q_nil _ _ _ _ _ | exact Kd.S_nil _ _ _ _ _, by repeat (first | (with_reducible first | exact HB.out | apply bA | apply bN | apply bD) | exact HB.out)⟩
          ·
           rw [if_neg c11] at H
           exact absurd H (by simp)
         ·
          rw [if_neg c10] at H
          exact absurd H (by simp)
        ·
         rw [if_neg c8] at H
         exact absurd H (by simp)
       ·
        rw [if_neg c7] at H
        exact absurd H (by simp)
   ·
    rw [if_neg c2] at H
    have c2b0 : decide (0 < (x0_1.size : Int)) = false := decide_eq_false c2
    have c2b1 : decide (0 < x0_1.size) = false := decide_eq_false (by omega)
    clear c2
    simp only [Option.some.injEq, Prod.mk.injEq] at H
    obtain ⟨rfl, rfl, rfl, rfl⟩ := H
    go_wp2
    refine bodyPost_ret (results_list (rs := [.tmp 2, .tmp 3, .tmp 4, .tmp 5]) rfl (by simp) (.tmp (.tmp (.tmp (.tmp .nil))))) rfl ?_
    exact ⟨_, by first | rfl | (simp [errW_none, errW_some] <;> rfl) | (simp [*, errW_none, errW_some] <;> rfl), by (with_reducible repeat (first | apply Kd.R_alloc | apply Kd.R_drewN | apply Kd.R_drew)); exact HO_7.out, by repeat (first | (with_reducible first | exact HB.out | apply bA | apply bN | apply bD) | exact HB.out)⟩

end Go.Proofs.Ytfagpgpeiomnpaa.P

namespace Go.Proofs.Ytfagpgpeiomnpaa.P
open Go.RowKit Go.Proofs.YtfagpgpeiomnpaaW.PrintWords Go.Proofs.YtfagpgpeiomnpaaW.PrintLast Go.Proofs.YtfagpgpeiomnpaaW.PrintMore
attribute [local go_sem] max2_int min2_int max_two min_two max_three min_three max_four min_four   -- for this text's walks alone
set_option linter.unusedVariables false
set_option linter.unusedSimpArgs false

/-! ### pascalineref01_ParseHex: function 30 -/
mutual
def pascalineref01_ParseHex.l0 : Nat → ByteArray → Int → Int → Option (Int × Bool)
 | 0, _, _, _ => none
 | k + 1, x0, x4, x5 => if x5 < 8 then (pascalineref01_ParseHex.l1 k x0 x4 x5 (-1) 0) else (some (x4, true))
def pascalineref01_ParseHex.l1 : Nat → ByteArray → Int → Int → Int → Int → Option (Int × Bool)
 | 0, _, _, _, _, _ => none
 | k + 1, x0, x4, x5, x6, x7 => if x7 < 16 then (if 0 ≤ x7 then (if 0 ≤ x5 then (if x5 < (x0.size : Int) then (if (bt (⟨#[48, 49, 50, 51, 52, 53, 54, 55, 56, 57, 97, 98, 99, 100, 101, 102]⟩ : ByteArray) x7) = (bt x0 x5) then (pascalineref01_ParseHex.l1 k x0 x4 x5 x7 (wrap64 (x7 + 1))) else (pascalineref01_ParseHex.l1 k x0 x4 x5 x6 (wrap64 (x7 + 1)))) else (none)) else (none)) else (none)) else (if x6 < 0 then (some (0, false)) else (pascalineref01_ParseHex.l0 k x0 ((((x4 * 16) % 4294967296) + ((x6) % 4294967296)) % 4294967296) (wrap64 (x5 + 1))))
end
def pascalineref01_ParseHex.f (k : Nat) (a0 : ByteArray) : Option (Int × Bool) := if (a0.size : Int) = 8 then (pascalineref01_ParseHex.l0 k a0 0 0) else (some (0, false))
theorem pascalineref01_ParseHex.mono_l : ∀ k, (∀ y0 y1 y2, LeO (pascalineref01_ParseHex.l0 k y0 y1 y2) (pascalineref01_ParseHex.l0 (k + 1) y0 y1 y2)) ∧ (∀ y0 y1 y2 y3 y4, LeO (pascalineref01_ParseHex.l1 k y0 y1 y2 y3 y4) (pascalineref01_ParseHex.l1 (k + 1) y0 y1 y2 y3 y4))
 | 0 => ⟨fun _ _ _ r h => by simp [pascalineref01_ParseHex.l0] at h, fun _ _ _ _ _ r h => by simp [pascalineref01_ParseHex.l1] at h⟩
 | k + 1 => by
  obtain ⟨ih0, ih1⟩ := pascalineref01_ParseHex.mono_l k
  refine ⟨?_, ?_⟩
  ·
   intro y0 y1 y2
   unfold pascalineref01_ParseHex.l0
   repeat' first
   | (with_reducible exact ih0 _ _ _)
   | (with_reducible exact ih1 _ _ _ _ _)
   | (with_reducible exact LeO.refl _)
   | (with_reducible exact LeO.none _)
   | (with_reducible refine LeO.ite ?_ ?_)
   | (with_reducible refine LeO.bind ?_ (fun _ => ?_))
   | exact LeO.none _
   | refine LeO.ite ?_ ?_
   | refine LeO.bind ?_ (fun _ => ?_)
  ·
   intro y0 y1 y2 y3 y4
   unfold pascalineref01_ParseHex.l1
   repeat' first
   | (with_reducible exact ih0 _ _ _)
   | (with_reducible exact ih1 _ _ _ _ _)
   | (with_reducible exact LeO.refl _)
   | (with_reducible exact LeO.none _)
   | (with_reducible refine LeO.ite ?_ ?_)
   | (with_reducible refine LeO.bind ?_ (fun _ => ?_))
   | exact LeO.none _
   | refine LeO.ite ?_ ?_
   | refine LeO.bind ?_ (fun _ => ?_)
theorem pascalineref01_ParseHex.mono : ∀ a0 k, LeO (pascalineref01_ParseHex.f k a0) (pascalineref01_ParseHex.f (k + 1) a0) := by
 intro a0 k
 obtain ⟨ih0, ih1⟩ := pascalineref01_ParseHex.mono_l k
 unfold pascalineref01_ParseHex.f
 repeat' first
  | (with_reducible exact ih0 _ _ _)
  | (with_reducible exact ih1 _ _ _ _ _)
  | (with_reducible exact LeO.refl _)
  | (with_reducible exact LeO.none _)
  | (with_reducible refine LeO.ite ?_ ?_)
  | (with_reducible refine LeO.bind ?_ (fun _ => ?_))
  | exact LeO.none _
  | refine LeO.ite ?_ ?_
  | refine LeO.bind ?_ (fun _ => ?_)
set_option maxHeartbeats 8000000 in
set_option maxRecDepth 100000 in
theorem pascalineref01_ParseHex.calls (k : Nat) (a0 : ByteArray) (r1 : Int) (r2 : Bool) (w : World) (h : pascalineref01_ParseHex.f k a0 = some (r1, r2)) :
 Calls Try.prog 30 #[.string a0] w fun e w' => e = .returned (.tuple #[.int .u32 r1, .bool r2]) ∧ Drawn0 w w' := by
 have H : (if (a0.size : Int) = 8 then (pascalineref01_ParseHex.l0 k a0 0 0) else (some (0, false))) = some (r1, r2) := h
 clear h
 by_cases c2 : (a0.size : Int) = 8
 ·
  rw [if_pos c2] at H
  have c2b0 : ((a0.size : Int) == 8) = true := beq_iff_eq.mpr c2
  have c2b1 : ((a0.size : Int) != 8) = false := bR c2
  clear c2
  have H' := mK H
  clear H
  go_enter Try.func30, Try.ntmps30
  go_wp2
  repeat (go_quiet (fail); try go_wp2)
  go_loopg [4, 5] k (fun kq v4 v5 w' => ∃ (x4_1 : Int) (x5_1 : Int), v4 = .int .u32 x4_1 ∧ v5 = .int .i64 x5_1 ∧ Aside0 (pascalineref01_ParseHex.l0 kq a0 x4_1 x5_1 = some (r1, r2)) ∧ Aside0 (kq ≤ k) ∧ Drawn0 w w')
  case atStart => exact ⟨(0), (0), (by first | rfl | (simp; done) | (simp [*]; done)), (by first | rfl | (simp; done) | (simp [*]; done)), H', ⟨Nat.le_refl _⟩, by repeat (first | exact Drawn0.refl _ | apply Drawn0.step)⟩
  case round =>
   clear H'
   (try clear c2); (try clear c2b0); (try clear c2b1)
   obtain ⟨x4_1, x5_1, rfl, rfl, HA, HK1, ⟨m1, rfl⟩⟩ := hrel
   cases gk with
   | zero => exact absurd HA.out (by simp [pascalineref01_ParseHex.l0])
   | succ k1 =>
    have H := HA.out
    clear HA
    simp only [pascalineref01_ParseHex.l0] at H
    by_cases c3 : x5_1 < 8
    ·
     rw [if_pos c3] at H
     have c3b0 : decide (x5_1 < 8) = true := decide_eq_true c3
     clear c3
     have H' := mK H
     clear H
     go_wp2
     repeat (go_quiet (fail); try go_wp2)
     go_loopg [6, 7] k1 (fun kq v6 v7 w' => ∃ (x6_2 : Int) (x7_2 : Int), v6 = .int .i64 x6_2 ∧ v7 = .int .i64 x7_2 ∧ Aside0 (pascalineref01_ParseHex.l1 kq a0 x4_1 x5_1 x6_2 x7_2 = some (r1, r2)) ∧ Aside0 (kq ≤ k1) ∧ Drawn0 w w')
     case atStart => exact ⟨((-1)), (0), (by first | rfl | (simp; done) | (simp [*]; done)), (by first | rfl | (simp; done) | (simp [*]; done)), H', ⟨Nat.le_refl _⟩, by repeat (first | exact Drawn0.refl _ | apply Drawn0.step)⟩
     case round =>
      clear H'
      (try clear c2); (try clear c2b0); (try clear c2b1); (try clear c3); (try clear c3b0)
      obtain ⟨x6_2, x7_2, rfl, rfl, HA, HK2, ⟨m2, rfl⟩⟩ := hrel
      cases gk with
      | zero => exact absurd HA.out (by simp [pascalineref01_ParseHex.l1])
      | succ k2 =>
       have H := HA.out
       clear HA
       simp only [pascalineref01_ParseHex.l1] at H
       by_cases c4 : x7_2 < 16
       ·
        rw [if_pos c4] at H
        have c4b0 : decide (x7_2 < 16) = true := decide_eq_true c4
        clear c4
        by_cases c5 : 0 ≤ x7_2
        ·
         rw [if_pos c5] at H
         have c5b0 : decide (0 ≤ x7_2) = true := decide_eq_true c5
         clear c5
         by_cases c7 : 0 ≤ x5_1
         ·
          rw [if_pos c7] at H
          have c7b0 : decide (0 ≤ x5_1) = true := decide_eq_true c7
          clear c7
          by_cases c8 : x5_1 < (a0.size : Int)
          ·
           rw [if_pos c8] at H
           have c8b0 : decide (x5_1 < (a0.size : Int)) = true := decide_eq_true c8
           clear c8
           by_cases c10 : (bt (⟨#[48, 49, 50, 51, 52, 53, 54, 55, 56, 57, 97, 98, 99, 100, 101, 102]⟩ : ByteArray) x7_2) = (bt a0 x5_1)
           ·
            rw [if_pos c10] at H
            have c10b0 : ((bt (⟨#[48, 49, 50, 51, 52, 53, 54, 55, 56, 57, 97, 98, 99, 100, 101, 102]⟩ : ByteArray) x7_2) == (bt a0 x5_1)) = true := beq_iff_eq.mpr c10
            have c10b1 : ((bt (⟨#[48, 49, 50, 51, 52, 53, 54, 55, 56, 57, 97, 98, 99, 100, 101, 102]⟩ : ByteArray) x7_2) != (bt a0 x5_1)) = false := bR c10
            clear c10
            have H' := mK H
            clear H
            have p6 : 0 ≤ (x7_2 : Int) := of_decide_eq_true (by first | (with_reducible assumption) | assumption)
            have q6 : x7_2 < (16 : Int) := of_decide_eq_true (by first | (with_reducible assumption) | assumption)
            have hx6 := bt_at (⟨#[48, 49, 50, 51, 52, 53, 54, 55, 56, 57, 97, 98, 99, 100, 101, 102]⟩ : ByteArray) x7_2
            replace p6 := eq_true p6
            replace q6 := eq_true q6
            have p9 : 0 ≤ (x5_1 : Int) := of_decide_eq_true (by first | (with_reducible assumption) | assumption)
            have q9 : x5_1 < (a0.size : Int) := of_decide_eq_true (by first | (with_reducible assumption) | assumption)
            have hx9 := bt_at a0 x5_1
            replace p9 := eq_true p9
            replace q9 := eq_true q9
            go_wp2
            repeat (go_quiet (fail); try go_wp2)
            go_roundg k2
            case measure => have := HK1.out; have := HK2.out; omega
            case rel => exact ⟨(x7_2), (wrap64 (x7_2 + 1)), (by first | rfl | (simp; done) | (simp [*]; done)), (by first | rfl | (simp; done) | (simp [*]; done)), H', ⟨by have := HK1.out; have := HK2.out; omega⟩, by repeat (first | exact Drawn0.refl _ | apply Drawn0.step)⟩
           ·
            rw [if_neg c10] at H
            have c10b0 : ((bt (⟨#[48, 49, 50, 51, 52, 53, 54, 55, 56, 57, 97, 98, 99, 100, 101, 102]⟩ : ByteArray) x7_2) == (bt a0 x5_1)) = false := bQ c10
            have c10b1 : ((bt (⟨#[48, 49, 50, 51, 52, 53, 54, 55, 56, 57, 97, 98, 99, 100, 101, 102]⟩ : ByteArray) x7_2) != (bt a0 x5_1)) = true := bne_iff_ne.mpr c10
            have H' := mK H
            clear H
            have p6 : 0 ≤ (x7_2 : Int) := of_decide_eq_true (by first | (with_reducible assumption) | assumption)
            have q6 : x7_2 < (16 : Int) := of_decide_eq_true (by first | (with_reducible assumption) | assumption)
            have hx6 := bt_at (⟨#[48, 49, 50, 51, 52, 53, 54, 55, 56, 57, 97, 98, 99, 100, 101, 102]⟩ : ByteArray) x7_2
            replace p6 := eq_true p6
            replace q6 := eq_true q6
            have p9 : 0 ≤ (x5_1 : Int) := of_decide_eq_true (by first | (with_reducible assumption) | assumption)
            have q9 : x5_1 < (a0.size : Int) := of_decide_eq_true (by first | (with_reducible assumption) | assumption)
            have hx9 := bt_at a0 x5_1
            replace p9 := eq_true p9
            replace q9 := eq_true q9
            go_wp2
            repeat (go_quiet (fail); try go_wp2)
            go_roundg k2
            case measure => have := HK1.out; have := HK2.out; omega
            case rel => exact ⟨(x6_2), (wrap64 (x7_2 + 1)), (by first | rfl | (simp; done) | (simp [*]; done)), (by first | rfl | (simp; done) | (simp [*]; done)), H', ⟨by have := HK1.out; have := HK2.out; omega⟩, by repeat (first | exact Drawn0.refl _ | apply Drawn0.step)⟩
          ·
           rw [if_neg c8] at H
           exact absurd H (by simp)
         ·
          rw [if_neg c7] at H
          exact absurd H (by simp)
        ·
         rw [if_neg c5] at H
         exact absurd H (by simp)
       ·
        rw [if_neg c4] at H
        have c4b0 : decide (x7_2 < 16) = false := decide_eq_false c4
        clear c4
        by_cases c11 : x6_2 < 0
        ·
         rw [if_pos c11] at H
         have c11b0 : decide (x6_2 < 0) = true := decide_eq_true c11
         clear c11
         simp only [Option.some.injEq, Prod.mk.injEq] at H
         obtain ⟨rfl, rfl⟩ := H
         go_wp2
         repeat (go_quiet (fail); try go_wp2)
         go_ret2
         exact ⟨by first | rfl | (simp; done) | (simp [*]; done), by repeat (first | exact Drawn0.refl _ | apply Drawn0.step)⟩
        ·
         rw [if_neg c11] at H
         have c11b0 : decide (x6_2 < 0) = false := decide_eq_false c11
         clear c11
         have H' := mK H
         clear H
         go_wp2
         repeat (go_quiet (fail); try go_wp2)
         go_roundg k2
         case measure => have := HK1.out; have := HK2.out; omega
         case rel => exact ⟨((((x4_1 * 16) % 4294967296) + ((x6_2) % 4294967296)) % 4294967296), (wrap64 (x5_1 + 1)), (by first | rfl | (simp; done) | (simp [*]; done)), (by first | rfl | (simp; done) | (simp [*]; done)), H', ⟨by have := HK1.out; have := HK2.out; omega⟩, by repeat (first | exact Drawn0.refl _ | apply Drawn0.step)⟩
    ·
     rw [if_neg c3] at H
     have c3b0 : decide (x5_1 < 8) = false := decide_eq_false c3
     clear c3
     simp only [Option.some.injEq, Prod.mk.injEq] at H
     obtain ⟨rfl, rfl⟩ := H
     go_wp2
     repeat (go_quiet (fail); try go_wp2)
     go_ret2
     exact ⟨by first | rfl | (simp; done) | (simp [*]; done), by repeat (first | exact Drawn0.refl _ | apply Drawn0.step)⟩
 ·
  rw [if_neg c2] at H
  have c2b0 : ((a0.size : Int) == 8) = false := bQ c2
  have c2b1 : ((a0.size : Int) != 8) = true := bne_iff_ne.mpr c2
  simp only [Option.some.injEq, Prod.mk.injEq] at H
  obtain ⟨rfl, rfl⟩ := H
  go_enter Try.func30, Try.ntmps30
  go_wp2
  repeat (go_quiet (fail); try go_wp2)
  go_ret2
  exact ⟨by first | rfl | (simp; done) | (simp [*]; done), by repeat (first | exact Drawn0.refl _ | apply Drawn0.step)⟩

end Go.Proofs.Ytfagpgpeiomnpaa.P

namespace Go.Proofs.Ytfagpgpeiomnpaa.P
open Go.RowKit Go.Proofs.YtfagpgpeiomnpaaW.PrintWords Go.Proofs.YtfagpgpeiomnpaaW.PrintLast Go.Proofs.YtfagpgpeiomnpaaW.PrintMore
attribute [local go_sem] max2_int min2_int max_two min_two max_three min_three max_four min_four   -- for this text's walks alone
set_option linter.unusedVariables false
set_option linter.unusedSimpArgs false

/-! ### pascalineref06_Read: function 14 -/
mutual
def pascalineref06_Read.l0 : Nat → ByteArray → Int → List Int → Int → Int → Option (Int × List Int × Int × Int)
 | 0, _, _, _, _, _ => none
 | k + 1, x0, x6, x7, x8, x9 => if x9 < (x0.size : Int) then (if 0 ≤ x9 then (if (bt x0 x9) = 10 then (if 0 ≤ x8 then (if x8 ≤ x9 then (if x9 ≤ (x0.size : Int) then (if ((x0.extract (x8 : Int).toNat (x9 : Int).toNat).size : Int) < 18 then (some (0, ([] : List Int), wrap64 ((x7.length : Int) + 1), 22)) else (if 0 ≤ 8 then (if 8 ≤ ((x0.extract (x8 : Int).toNat (x9 : Int).toNat).size : Int) then ((pascalineref01_ParseHex.f k ((x0.extract (x8 : Int).toNat (x9 : Int).toNat).extract 0 8)).bind fun bt332 => (if 9 ≤ 17 then (if 17 ≤ ((x0.extract (x8 : Int).toNat (x9 : Int).toNat).size : Int) then ((pascalineref01_ParseHex.f k ((x0.extract (x8 : Int).toNat (x9 : Int).toNat).extract 9 17)).bind fun bt334 => (if bt332.2 = true then (pascalineref06_Read.j1 k x0 x6 x7 (wrap64 (x9 + 1)) x9 (x0.extract (x8 : Int).toNat (x9 : Int).toNat) (wrap64 ((x7.length : Int) + 1)) bt332.1 bt334.1 (!bt334.2)) else (pascalineref06_Read.j1 k x0 x6 x7 (wrap64 (x9 + 1)) x9 (x0.extract (x8 : Int).toNat (x9 : Int).toNat) (wrap64 ((x7.length : Int) + 1)) bt332.1 bt334.1 true))) else (none)) else (none))) else (none)) else (none))) else (none)) else (none)) else (none)) else (pascalineref06_Read.l0 k x0 x6 x7 x8 (wrap64 (x9 + 1)))) else (none)) else (if x8 < (x0.size : Int) then (some (0, ([] : List Int), wrap64 ((x7.length : Int) + 1), 22)) else (some (x6, x7, 0, 0)))
def pascalineref06_Read.j1 : Nat → ByteArray → Int → List Int → Int → Int → ByteArray → Int → Int → Int → Bool → Option (Int × List Int × Int × Int)
 | 0, _, _, _, _, _, _, _, _, _, _ => none
 | k + 1, x0, x6, x7, x8, x9, x10, x11, x12, x14, x56 => if x56 = true then (some (0, ([] : List Int), x11, 22)) else (if x11 = 1 then ((pascalineref06_Line.f k ((x12 + ((4 * ((wrap64 (x11 - 1)) % 4294967296)) % 4294967296)) % 4294967296) x14).bind fun t336 => (if x10.toList = t336.toList then (if x7.length < 35184372088832 then (pascalineref06_Read.l0 k x0 x12 (x7 ++ [x14]) x8 (wrap64 (x9 + 1))) else (none)) else (some (0, ([] : List Int), x11, 22)))) else ((pascalineref06_Line.f k ((x6 + ((4 * ((wrap64 (x11 - 1)) % 4294967296)) % 4294967296)) % 4294967296) x14).bind fun t340 => (if x10.toList = t340.toList then (if x7.length < 35184372088832 then (pascalineref06_Read.l0 k x0 x6 (x7 ++ [x14]) x8 (wrap64 (x9 + 1))) else (none)) else (some (0, ([] : List Int), x11, 22)))))
end
def pascalineref06_Read.f (k : Nat) (a0 : ByteArray) : Option (Int × List Int × Int × Int) := pascalineref06_Read.l0 k a0 0 ([] : List Int) 0 0
theorem pascalineref06_Read.mono_l : ∀ k, (∀ y0 y1 y2 y3 y4, LeO (pascalineref06_Read.l0 k y0 y1 y2 y3 y4) (pascalineref06_Read.l0 (k + 1) y0 y1 y2 y3 y4)) ∧ (∀ y0 y1 y2 y3 y4 y5 y6 y7 y8 y9, LeO (pascalineref06_Read.j1 k y0 y1 y2 y3 y4 y5 y6 y7 y8 y9) (pascalineref06_Read.j1 (k + 1) y0 y1 y2 y3 y4 y5 y6 y7 y8 y9))
 | 0 => ⟨fun _ _ _ _ _ r h => by simp [pascalineref06_Read.l0] at h, fun _ _ _ _ _ _ _ _ _ _ r h => by simp [pascalineref06_Read.j1] at h⟩
 | k + 1 => by
  obtain ⟨ih0, ih1⟩ := pascalineref06_Read.mono_l k
  refine ⟨?_, ?_⟩
  ·
   intro y0 y1 y2 y3 y4
   unfold pascalineref06_Read.l0
   repeat' first
   | (with_reducible exact ih0 _ _ _ _ _)
   | (with_reducible exact ih1 _ _ _ _ _ _ _ _ _ _)
   | (with_reducible exact pascalineref01_ParseHex.mono _ _)
   | (with_reducible exact pascalineref06_Line.mono _ _ _)
   | (with_reducible exact LeO.refl _)
   | (with_reducible exact LeO.none _)
   | (with_reducible refine LeO.ite ?_ ?_)
   | (with_reducible refine LeO.bind ?_ (fun _ => ?_))
   | exact LeO.none _
   | refine LeO.ite ?_ ?_
   | refine LeO.bind ?_ (fun _ => ?_)
  ·
   intro y0 y1 y2 y3 y4 y5 y6 y7 y8 y9
   unfold pascalineref06_Read.j1
   repeat' first
   | (with_reducible exact ih0 _ _ _ _ _)
   | (with_reducible exact ih1 _ _ _ _ _ _ _ _ _ _)
   | (with_reducible exact pascalineref01_ParseHex.mono _ _)
   | (with_reducible exact pascalineref06_Line.mono _ _ _)
   | (with_reducible exact LeO.refl _)
   | (with_reducible exact LeO.none _)
   | (with_reducible refine LeO.ite ?_ ?_)
   | (with_reducible refine LeO.bind ?_ (fun _ => ?_))
   | exact LeO.none _
   | refine LeO.ite ?_ ?_
   | refine LeO.bind ?_ (fun _ => ?_)
theorem pascalineref06_Read.mono : ∀ a0 k, LeO (pascalineref06_Read.f k a0) (pascalineref06_Read.f (k + 1) a0) := by
 intro a0 k
 obtain ⟨ih0, ih1⟩ := pascalineref06_Read.mono_l k
 unfold pascalineref06_Read.f
 repeat' first
  | (with_reducible exact ih0 _ _ _ _ _)
  | (with_reducible exact ih1 _ _ _ _ _ _ _ _ _ _)
  | (with_reducible exact pascalineref01_ParseHex.mono _ _)
  | (with_reducible exact pascalineref06_Line.mono _ _ _)
  | (with_reducible exact LeO.refl _)
  | (with_reducible exact LeO.none _)
  | (with_reducible refine LeO.ite ?_ ?_)
  | (with_reducible refine LeO.bind ?_ (fun _ => ?_))
  | exact LeO.none _
  | refine LeO.ite ?_ ?_
  | refine LeO.bind ?_ (fun _ => ?_)
set_option maxHeartbeats 8000000 in
set_option maxRecDepth 100000 in
theorem pascalineref06_Read.calls (k : Nat) (a0 : ByteArray) (r1 : Int) (r2 : List Int) (r3 : Int) (r4 : Int) (w : World) (h : pascalineref06_Read.f k a0 = some (r1, r2, r3, r4)) :
 Calls Try.prog 14 #[.string a0] w fun e w' => ∃ v1_ : Value, e = .returned (.tuple #[.int .u32 r1, v1_, .int .i64 r3, .int .i64 r4]) ∧ Kd.R (Kd.int .u32) 22 w' w.heap.size (fun _ => True) v1_ r2 ∧ Below w.heap.size w w' := by
 have HB := mK (Below.refl w.heap.size w)
 have H : (pascalineref06_Read.l0 k a0 0 ([] : List Int) 0 0) = some (r1, r2, r3, r4) := h
 clear h
 have H' := mK H
 clear H
 go_enter Try.func14, Try.ntmps14
 go_wp2
 go_loopg [6, 7, 8, 9] k (fun kq v6 v7 v8 v9 w' => ∃ (x6_1 : Int) (x7_1 : List Int) (x8_1 : Int) (x9_1 : Int), v6 = .int .u32 x6_1 ∧ v8 = .int .i64 x8_1 ∧ v9 = .int .i64 x9_1 ∧ Aside0 (pascalineref06_Read.l0 kq a0 x6_1 x7_1 x8_1 x9_1 = some (r1, r2, r3, r4)) ∧ Aside0 (kq ≤ k) ∧ Aside0 (Kd.R (Kd.int .u32) 22 w' w.heap.size (fun _ => True) v7 x7_1) ∧ Aside0 (Below w.heap.size w w'))
 case atStart => exact ⟨(0), (([] : List Int)), (0), (0), (by first | rfl | (simp; done) | (simp [*]; done)), (by first | rfl | (simp; done) | (simp [*]; done)), (by first | rfl | (simp; done) | (simp [*]; done)), H', ⟨Nat.le_refl _⟩, ⟨by first | exact Kd.R_nil _ _ _ _ _ | exact Kd.N_nil _ _ _ _ _ | exact Kd.V_nil _ _ _ _ _ | exact Kd.Q_nil _ _ _ _ _ | exact Kd.S_nil _ _ _ _ _⟩, ⟨by repeat (first | (with_reducible first | exact HB.out | apply bA | apply bN | apply bD) | exact HB.out)⟩⟩
 case round =>
  clear H'
  obtain ⟨x6_1, x7_1, x8_1, x9_1, rfl, rfl, rfl, HA, HK1, HO_7, HB⟩ := hrel
  cases gk with
  | zero => exact absurd HA.out (by simp [pascalineref06_Read.l0])
  | succ k1 =>
   have H := HA.out
   clear HA
   simp only [pascalineref06_Read.l0] at H
   by_cases c2 : x9_1 < (a0.size : Int)
   ·
    rw [if_pos c2] at H
    have c2b0 : decide (x9_1 < (a0.size : Int)) = true := decide_eq_true c2
    clear c2
    by_cases c3 : 0 ≤ x9_1
    ·
     rw [if_pos c3] at H
     have c3b0 : decide (0 ≤ x9_1) = true := decide_eq_true c3
     clear c3
     by_cases c5 : (bt a0 x9_1) = 10
     ·
      rw [if_pos c5] at H
      have c5b0 : ((bt a0 x9_1) == 10) = true := beq_iff_eq.mpr c5
      have c5b1 : ((bt a0 x9_1) != 10) = false := bR c5
      clear c5
      by_cases c6 : 0 ≤ x8_1
      ·
       rw [if_pos c6] at H
       have c6b0 := eq_true c6
       have c6b1 : decide (0 ≤ x8_1) = true := decide_eq_true c6
       clear c6
       by_cases c7 : x8_1 ≤ x9_1
       ·
        rw [if_pos c7] at H
        have c7b0 := eq_true c7
        have c7b1 : decide (x8_1 ≤ x9_1) = true := decide_eq_true c7
        clear c7
        by_cases c8 : x9_1 ≤ (a0.size : Int)
        ·
         rw [if_pos c8] at H
         have c8b0 := eq_true c8
         have c8b1 : decide (x9_1 ≤ (a0.size : Int)) = true := decide_eq_true c8
         clear c8
         obtain ⟨s9, hs9⟩ : ∃ s9 : ByteArray, (a0.extract (x8_1 : Int).toNat (x9_1 : Int).toNat) = s9 := ⟨_, rfl⟩
         (try simp only [hs9] at H)
         by_cases c9 : (s9.size : Int) < 18
         ·
          rw [if_pos c9] at H
          have c9b0 : decide ((s9.size : Int) < 18) = true := decide_eq_true c9
          have c9b1 : decide (s9.size < 18) = true := decide_eq_true (by omega)
          clear c9
          simp only [Option.some.injEq, Prod.mk.injEq] at H
          obtain ⟨rfl, rfl, rfl, rfl⟩ := H
          have p4 : 0 ≤ (x9_1 : Int) := of_decide_eq_true (by first | (with_reducible assumption) | assumption)
          have q4 : x9_1 < (a0.size : Int) := of_decide_eq_true (by first | (with_reducible assumption) | assumption)
          have hx4 := bt_at a0 x9_1
          replace p4 := eq_true p4
          replace q4 := eq_true q4
          obtain ⟨Ao10, co10, eo10⟩ := Kd.R_slice HO_7.out
          subst eo10
          go_wp2
          refine bodyPost_ret (results_list (rs := [.tmp 2, .tmp 3, .tmp 4, .tmp 5]) rfl (by simp) (.tmp (.tmp (.tmp (.tmp .nil))))) rfl ?_
          exact ⟨_, by first | rfl | (simp [errW_none, errW_some] <;> rfl) | (simp [*, errW_none, errW_some] <;> rfl), by first | exact Kd.R_nil _ _ _ _ _ | exact Kd.N_nil _ _ _ _ _ | exact Kd.V_nil _ _ _ _ _ | exact Kd.Q_nil _ _ _ _ _ | exact Kd.S_nil _ _ _ _ _, by repeat (first | (with_reducible first | exact HB.out | apply bA | apply bN | apply bD) | exact HB.out)⟩
         ·
          rw [if_neg c9] at H
          have c9b0 : decide ((s9.size : Int) < 18) = false := decide_eq_false c9
          have c9b1 : decide (s9.size < 18) = false := decide_eq_false (by omega)
          clear c9
          by_cases c11 : 0 ≤ 8
          ·
           rw [if_pos c11] at H
           have c11b0 := eq_true c11
           have c11b1 : decide (0 ≤ 8) = true := decide_eq_true c11
           clear c11
           by_cases c12 : 8 ≤ (s9.size : Int)
           ·
            rw [if_pos c12] at H
            have c12b0 := eq_true c12
            have c12b1 : decide (8 ≤ (s9.size : Int)) = true := decide_eq_true c12
            clear c12
            replace H := oB H
            obtain ⟨⟨t332, t333⟩, A130, H⟩ := H
            replace H : (if 9 ≤ 17 then (if 17 ≤ (s9.size : Int) then ((pascalineref01_ParseHex.f k1 (s9.extract 9 17)).bind fun bt334 => (if t333 = true then (pascalineref06_Read.j1 k1 a0 x6_1 x7_1 (wrap64 (x9_1 + 1)) x9_1 s9 (wrap64 ((x7_1.length : Int) + 1)) t332 bt334.1 (!bt334.2)) else (pascalineref06_Read.j1 k1 a0 x6_1 x7_1 (wrap64 (x9_1 + 1)) x9_1 s9 (wrap64 ((x7_1.length : Int) + 1)) t332 bt334.1 true))) else (none)) else (none)) = some (r1, r2, r3, r4) := H
            have A13 := mK A130
            clear A130
            by_cases c14 : 9 ≤ 17
            ·
             rw [if_pos c14] at H
             have c14b0 := eq_true c14
             have c14b1 : decide (9 ≤ 17) = true := decide_eq_true c14
             clear c14
             by_cases c15 : 17 ≤ (s9.size : Int)
             ·
              rw [if_pos c15] at H
              have c15b0 := eq_true c15
              have c15b1 : decide (17 ≤ (s9.size : Int)) = true := decide_eq_true c15
              clear c15
              replace H := oB H
              obtain ⟨⟨t334, t335⟩, A160, H⟩ := H
              replace H : (if t333 = true then (pascalineref06_Read.j1 k1 a0 x6_1 x7_1 (wrap64 (x9_1 + 1)) x9_1 s9 (wrap64 ((x7_1.length : Int) + 1)) t332 t334 (!t335)) else (pascalineref06_Read.j1 k1 a0 x6_1 x7_1 (wrap64 (x9_1 + 1)) x9_1 s9 (wrap64 ((x7_1.length : Int) + 1)) t332 t334 true)) = some (r1, r2, r3, r4) := H
              have A16 := mK A160
              clear A160
              have HC17 := mK H
              clear H
              have p4 : 0 ≤ (x9_1 : Int) := of_decide_eq_true (by first | (with_reducible assumption) | assumption)
              have q4 : x9_1 < (a0.size : Int) := of_decide_eq_true (by first | (with_reducible assumption) | assumption)
              have hx4 := bt_at a0 x9_1
              replace p4 := eq_true p4
              replace q4 := eq_true q4
              obtain ⟨Ao18, co18, eo18⟩ := Kd.R_slice HO_7.out
              subst eo18
              go_upto_region 15 with (first | ((with_reducible refine gate_callee (f := 30) rfl ?_); refine goesL_ (some 42) rfl rfl Try.func30 (by kernel_rfl) rfl #[.string (s9.extract 0 8)] rfl (by (try simp only [List.map_toArray, List.map_cons, List.map_nil]); first | done | rfl) ?_; (with_reducible refine (pascalineref01_ParseHex.calls k1 (s9.extract 0 8) t332 t333 _ A13.out).mono ?_); rintro e w' ⟨rfl, ⟨nd, rfl⟩⟩; refine ⟨_, rfl, ?_⟩) | ((with_reducible refine gate_callee (f := 30) rfl ?_); refine goesL_ (some 48) rfl rfl Try.func30 (by kernel_rfl) rfl #[.string (s9.extract 9 17)] rfl (by (try simp only [List.map_toArray, List.map_cons, List.map_nil]); first | done | rfl) ?_; (with_reducible refine (pascalineref01_ParseHex.calls k1 (s9.extract 9 17) t334 t335 _ A16.out).mono ?_); rintro e w' ⟨rfl, ⟨nd, rfl⟩⟩; refine ⟨_, rfl, ?_⟩))
              (try simp only [Act.put, List.setIfInBounds_toArray, List.set_cons_zero, List.set_cons_succ])
              go_cut [56] (fun v56 wc => ∃ (kq : Nat) (x56_16 : Bool), v56 = .bool x56_16 ∧ Aside0 (pascalineref06_Read.j1 kq a0 x6_1 x7_1 (wrap64 (x9_1 + 1)) x9_1 s9 (wrap64 ((x7_1.length : Int) + 1)) t332 t334 x56_16 = some (r1, r2, r3, r4)) ∧ Aside0 (kq ≤ k1) ∧ Aside0 (Kd.R (Kd.int .u32) 22 wc w.heap.size (fun _ => True) (.slice Ao18 x7_1.length co18) x7_1) ∧ Aside0 (Below w.heap.size w wc))
              case first =>
               have H := HC17.out
               clear HC17
               by_cases c19 : t333 = true
               ·
                subst c19
                have H1 : (pascalineref06_Read.j1 k1 a0 x6_1 x7_1 (wrap64 (x9_1 + 1)) x9_1 s9 (wrap64 ((x7_1.length : Int) + 1)) t332 t334 (!t335)) = some (r1, r2, r3, r4) := by rw [if_pos rfl] at H; exact H
                clear H
                have H := H1
                clear H1
                have H' := mK H
                clear H
                go_wp2
                go_meet
                case rel => exact ⟨_, (!t335), (by first | rfl | (simp; done) | (simp [*]; done)), H', ⟨by have := HK1.out; first | omega | exact Nat.le_refl _⟩, ⟨by (with_reducible repeat (first | apply Kd.R_alloc | apply Kd.R_drewN | apply Kd.R_drew)); exact HO_7.out⟩, ⟨by repeat (first | (with_reducible first | exact HB.out | apply bA | apply bN | apply bD) | exact HB.out)⟩⟩
               ·
                replace c19 := Bool.eq_false_iff.mpr c19
                subst c19
                have H1 : (pascalineref06_Read.j1 k1 a0 x6_1 x7_1 (wrap64 (x9_1 + 1)) x9_1 s9 (wrap64 ((x7_1.length : Int) + 1)) t332 t334 true) = some (r1, r2, r3, r4) := by rw [if_neg (show ¬ (false = true) by decide)] at H; exact H
                clear H
                have H := H1
                clear H1
                have H' := mK H
                clear H
                go_wp2
                go_meet
                case rel => exact ⟨_, (true), (by first | rfl | (simp; done) | (simp [*]; done)), H', ⟨by have := HK1.out; first | omega | exact Nat.le_refl _⟩, ⟨by (with_reducible repeat (first | apply Kd.R_alloc | apply Kd.R_drewN | apply Kd.R_drew)); exact HO_7.out⟩, ⟨by repeat (first | (with_reducible first | exact HB.out | apply bA | apply bN | apply bD) | exact HB.out)⟩⟩
              case rest =>
               clear HC17
               (try clear c2); (try clear c2b0); (try clear c3); (try clear c3b0); (try clear p4); (try clear q4); (try clear hx4); (try clear c5); (try clear c5b0); (try clear c5b1); (try clear c6); (try clear c6b0); (try clear c6b1); (try clear c7); (try clear c7b0); (try clear c7b1); (try clear c8); (try clear c8b0); (try clear c8b1); (try clear c9); (try clear c9b0); (try clear c9b1); (try clear c11); (try clear c11b0); (try clear c11b1); (try clear c12); (try clear c12b0); (try clear c12b1); (try clear c14); (try clear c14b0); (try clear c14b1); (try clear c15); (try clear c15b0); (try clear c15b1); (try clear p4); (try clear q4)
               obtain ⟨kq, x56_16, rfl, HA, HJ16, HO_7, HB⟩ := hcut
               cases kq with
               | zero => exact absurd HA.out (by simp [pascalineref06_Read.j1])
               | succ kj16 =>
                have H := HA.out
                clear HA
                simp only [pascalineref06_Read.j1] at H
                by_cases c20 : x56_16 = true
                ·
                 subst c20
                 have H1 : (some (0, ([] : List Int), (wrap64 ((x7_1.length : Int) + 1)), 22)) = some (r1, r2, r3, r4) := by rw [if_pos rfl] at H; exact H
                 clear H
                 have H := H1
                 clear H1
                 simp only [Option.some.injEq, Prod.mk.injEq] at H
                 obtain ⟨rfl, rfl, rfl, rfl⟩ := H
                 go_wp2
                 refine bodyPost_ret (results_list (rs := [.tmp 2, .tmp 3, .tmp 4, .tmp 5]) rfl (by simp) (.tmp (.tmp (.tmp (.tmp .nil))))) rfl ?_
                 exact ⟨_, by first | rfl | (simp [errW_none, errW_some] <;> rfl) | (simp [*, errW_none, errW_some] <;> rfl), by first | exact Kd.R_nil _ _ _ _ _ | exact Kd.N_nil _ _ _ _ _ | exact Kd.V_nil _ _ _ _ _ | exact Kd.Q_nil _ _ _ _ _ | exact Kd.S_nil _ _ _ _ _, by repeat (first | (with_reducible first | exact HB.out | apply bA | apply bN | apply bD) | exact HB.out)⟩
                ·
                 replace c20 := Bool.eq_false_iff.mpr c20
                 subst c20
                 have H1 : (if (wrap64 ((x7_1.length : Int) + 1)) = 1 then ((pascalineref06_Line.f kj16 ((t332 + ((4 * ((wrap64 ((wrap64 ((x7_1.length : Int) + 1)) - 1)) % 4294967296)) % 4294967296)) % 4294967296) t334).bind fun t336 => (if s9.toList = t336.toList then (if x7_1.length < 35184372088832 then (pascalineref06_Read.l0 kj16 a0 t332 (x7_1 ++ [t334]) (wrap64 (x9_1 + 1)) (wrap64 (x9_1 + 1))) else (none)) else (some (0, ([] : List Int), (wrap64 ((x7_1.length : Int) + 1)), 22)))) else ((pascalineref06_Line.f kj16 ((x6_1 + ((4 * ((wrap64 ((wrap64 ((x7_1.length : Int) + 1)) - 1)) % 4294967296)) % 4294967296)) % 4294967296) t334).bind fun t340 => (if s9.toList = t340.toList then (if x7_1.length < 35184372088832 then (pascalineref06_Read.l0 kj16 a0 x6_1 (x7_1 ++ [t334]) (wrap64 (x9_1 + 1)) (wrap64 (x9_1 + 1))) else (none)) else (some (0, ([] : List Int), (wrap64 ((x7_1.length : Int) + 1)), 22))))) = some (r1, r2, r3, r4) := by rw [if_neg (show ¬ (false = true) by decide)] at H; exact H
                 clear H
                 have H := H1
                 clear H1
                 by_cases c21 : (wrap64 ((x7_1.length : Int) + 1)) = 1
                 ·
                  rw [if_pos c21] at H
                  have c21b0 : ((wrap64 ((x7_1.length : Int) + 1)) == 1) = true := beq_iff_eq.mpr c21
                  have c21b1 : ((wrap64 ((x7_1.length : Int) + 1)) != 1) = false := bR c21
                  clear c21
                  replace H := oB H
                  obtain ⟨t336, A220, H⟩ := H
                  replace H : (if s9.toList = t336.toList then (if x7_1.length < 35184372088832 then (pascalineref06_Read.l0 kj16 a0 t332 (x7_1 ++ [t334]) (wrap64 (x9_1 + 1)) (wrap64 (x9_1 + 1))) else (none)) else (some (0, ([] : List Int), (wrap64 ((x7_1.length : Int) + 1)), 22))) = some (r1, r2, r3, r4) := H
                  have A22 := mK A220
                  clear A220
                  by_cases c23 : s9.toList = t336.toList
                  ·
                   rw [if_pos c23] at H
                   have c23b0 : (s9.toList == t336.toList) = true := beq_iff_eq.mpr c23
                   have c23b1 : (s9.toList != t336.toList) = false := bR c23
                   clear c23
                   by_cases c24 : x7_1.length < 35184372088832
                   ·
                    rw [if_pos c24] at H
                    have LMc24 := mK c24
                    clear c24
                    obtain ⟨y337, hy337⟩ : ∃ y_ : List Int, y_ = (x7_1 ++ [t334]) := ⟨_, rfl⟩
                    replace H : (pascalineref06_Read.l0 kj16 a0 t332 y337 (wrap64 (x9_1 + 1)) (wrap64 (x9_1 + 1))) = some (r1, r2, r3, r4) := by first | (rw [hy337]; with_reducible exact H) | (have H2_ := (Option.bind_some _ _).symm.trans H; rw [hy337]; with_reducible exact H2_) | (have H2_ := (Option.bind_some _ _).symm.trans H; with_reducible exact H2_) | with_reducible exact H | (rw [hy337]; exact H) | exact H
                    have Ny337 := mK hy337
                    clear hy337
                    have H' := mK H
                    clear H
                    go_wp2_with (first | ((with_reducible refine gate_callee (f := 10) rfl ?_); refine goesL_ (some 69) rfl rfl Try.func10 (by kernel_rfl) rfl #[.int .u32 ((t332 + ((4 * ((wrap64 ((wrap64 ((x7_1.length : Int) + 1)) - 1)) % 4294967296)) % 4294967296)) % 4294967296), .int .u32 t334] rfl (by (try simp only [List.map_toArray, List.map_cons, List.map_nil]); first | done | rfl) ?_; (with_reducible refine (pascalineref06_Line.calls kj16 ((t332 + ((4 * ((wrap64 ((wrap64 ((x7_1.length : Int) + 1)) - 1)) % 4294967296)) % 4294967296)) % 4294967296) t334 t336 _ A22.out).mono ?_); rintro e w25 ⟨rfl, hb⟩; refine ⟨_, rfl, ?_⟩; have n0_ := mK (Kd.R_below (by (with_reducible repeat (first | apply Kd.R_alloc | apply Kd.R_drewN | apply Kd.R_drew)); exact HO_7.out) hb); have n1_ := mK (bP (by repeat (first | (with_reducible first | exact HB.out | apply bA | apply bN | apply bD) | exact HB.out)) hb); clear HO_7; clear HB; have HO_7 := n0_; have HB := n1_; clear n0_ n1_; (try clear hb); (try clear hk)) | ((with_reducible refine gate_builtin (b := .append) (xs := #[.tmp 72, .tmp 74]) rfl ?_); at_builtin; refine Kd.R_append (Kd.int .u32) (w0 := w) w.heap.size rfl (.tmp 72) (.tmp 74) 30 22 (.int .u32 0) 4 rfl Try.underlying30 info22 rfl (by decide) (by omega) (.slice Ao18 x7_1.length co18) x7_1 t334 [.int .u32 t334] (fun _ => True) (fun _ => False) rfl rfl ?aP (fun _ hk => hk.elim) ?aF ?aO ?aB ?aS ?aL ?_; (case aP => exact rfl); (case aB => exact (by repeat (first | (with_reducible first | exact HB.out | apply bA | apply bN | apply bD) | exact HB.out))); (case aF => exact (fun _ _ => trivial)); (case aO => exact (by (with_reducible repeat (first | apply Kd.R_alloc | apply Kd.R_drewN | apply Kd.R_drew)); exact HO_7.out)); (case aS => exact (bZ (by repeat (first | (with_reducible first | exact HB.out | apply bA | apply bN | apply bD) | exact HB.out)))); (case aL => have := LMc24.out; omega); intro v338 w26 ho hb hg hat; rw [← Ny337.out] at ho; have n0_ := mK (hb); have n1_ := mK (ho); clear HB; clear HO_7; have HB := n0_; have HO339 := n1_; clear n0_ n1_; clear ho hb hg hat))
                    go_roundg kj16
                    case measure => have := HK1.out; have := HJ16.out; omega
                    case rel => exact ⟨(t332), (y337), ((wrap64 (x9_1 + 1))), (wrap64 (x9_1 + 1)), (by first | rfl | (simp; done) | (simp [*]; done)), (by first | rfl | (simp; done) | (simp [*]; done)), (by first | rfl | (simp; done) | (simp [*]; done)), H', ⟨by have := HK1.out; have := HJ16.out; omega⟩, ⟨by (with_reducible repeat (first | apply Kd.R_alloc | apply Kd.R_drewN | apply Kd.R_drew)); exact HO339.out⟩, ⟨by repeat (first | (with_reducible first | exact HB.out | apply bA | apply bN | apply bD) | exact HB.out)⟩⟩
                   ·
                    rw [if_neg c24] at H
                    exact absurd H (by simp)
                  ·
                   rw [if_neg c23] at H
                   have c23b0 : (s9.toList == t336.toList) = false := bQ c23
                   have c23b1 : (s9.toList != t336.toList) = true := bne_iff_ne.mpr c23
                   simp only [Option.some.injEq, Prod.mk.injEq] at H
                   obtain ⟨rfl, rfl, rfl, rfl⟩ := H
                   go_wp2_with (first | ((with_reducible refine gate_callee (f := 10) rfl ?_); refine goesL_ (some 69) rfl rfl Try.func10 (by kernel_rfl) rfl #[.int .u32 ((t332 + ((4 * ((wrap64 ((wrap64 ((x7_1.length : Int) + 1)) - 1)) % 4294967296)) % 4294967296)) % 4294967296), .int .u32 t334] rfl (by (try simp only [List.map_toArray, List.map_cons, List.map_nil]); first | done | rfl) ?_; (with_reducible refine (pascalineref06_Line.calls kj16 ((t332 + ((4 * ((wrap64 ((wrap64 ((x7_1.length : Int) + 1)) - 1)) % 4294967296)) % 4294967296)) % 4294967296) t334 t336 _ A22.out).mono ?_); rintro e w27 ⟨rfl, hb⟩; refine ⟨_, rfl, ?_⟩; have n0_ := mK (Kd.R_below (by (with_reducible repeat (first | apply Kd.R_alloc | apply Kd.R_drewN | apply Kd.R_drew)); exact HO_7.out) hb); have n1_ := mK (bP (by repeat (first | (with_reducible first | exact HB.out | apply bA | apply bN | apply bD) | exact HB.out)) hb); clear HO_7; clear HB; have HO_7 := n0_; have HB := n1_; clear n0_ n1_; (try clear hb)))
                   refine bodyPost_ret (results_list (rs := [.tmp 2, .tmp 3, .tmp 4, .tmp 5]) rfl (by simp) (.tmp (.tmp (.tmp (.tmp .nil))))) rfl ?_
                   exact ⟨_, by first | rfl | (simp [errW_none, errW_some] <;> rfl) | (simp [*, errW_none, errW_some] <;> rfl), by first | exact Kd.R_nil _ _ _ _ _ | exact Kd.N_nil _ _ _ _ _ | exact Kd.V_nil _ _ _ _ _ | exact Kd.Q_nil _ _ _ _ _ | exact Kd.S_nil _ _ _ _ _, by repeat (first | (with_reducible first | exact HB.out | apply bA | apply bN | apply bD) | exact HB.out)⟩
                 ·
                  rw [if_neg c21] at H
                  have c21b0 : ((wrap64 ((x7_1.length : Int) + 1)) == 1) = false := bQ c21
                  have c21b1 : ((wrap64 ((x7_1.length : Int) + 1)) != 1) = true := bne_iff_ne.mpr c21
                  replace H := oB H
                  obtain ⟨t340, A280, H⟩ := H
                  replace H : (if s9.toList = t340.toList then (if x7_1.length < 35184372088832 then (pascalineref06_Read.l0 kj16 a0 x6_1 (x7_1 ++ [t334]) (wrap64 (x9_1 + 1)) (wrap64 (x9_1 + 1))) else (none)) else (some (0, ([] : List Int), (wrap64 ((x7_1.length : Int) + 1)), 22))) = some (r1, r2, r3, r4) := H
                  have A28 := mK A280
                  clear A280
                  by_cases c29 : s9.toList = t340.toList
                  ·
                   rw [if_pos c29] at H
                   have c29b0 : (s9.toList == t340.toList) = true := beq_iff_eq.mpr c29
                   have c29b1 : (s9.toList != t340.toList) = false := bR c29
                   clear c29
                   by_cases c30 : x7_1.length < 35184372088832
                   ·
                    rw [if_pos c30] at H
                    have LMc30 := mK c30
                    clear c30
                    obtain ⟨y341, hy341⟩ : ∃ y_ : List Int, y_ = (x7_1 ++ [t334]) := ⟨_, rfl⟩
                    replace H : (pascalineref06_Read.l0 kj16 a0 x6_1 y341 (wrap64 (x9_1 + 1)) (wrap64 (x9_1 + 1))) = some (r1, r2, r3, r4) := by first | (rw [hy341]; with_reducible exact H) | (have H2_ := (Option.bind_some _ _).symm.trans H; rw [hy341]; with_reducible exact H2_) | (have H2_ := (Option.bind_some _ _).symm.trans H; with_reducible exact H2_) | with_reducible exact H | (rw [hy341]; exact H) | exact H
                    have Ny341 := mK hy341
                    clear hy341
                    have H' := mK H
                    clear H
                    go_wp2_with (first | ((with_reducible refine gate_callee (f := 10) rfl ?_); refine goesL_ (some 69) rfl rfl Try.func10 (by kernel_rfl) rfl #[.int .u32 ((x6_1 + ((4 * ((wrap64 ((wrap64 ((x7_1.length : Int) + 1)) - 1)) % 4294967296)) % 4294967296)) % 4294967296), .int .u32 t334] rfl (by (try simp only [List.map_toArray, List.map_cons, List.map_nil]); first | done | rfl) ?_; (with_reducible refine (pascalineref06_Line.calls kj16 ((x6_1 + ((4 * ((wrap64 ((wrap64 ((x7_1.length : Int) + 1)) - 1)) % 4294967296)) % 4294967296)) % 4294967296) t334 t340 _ A28.out).mono ?_); rintro e w31 ⟨rfl, hb⟩; refine ⟨_, rfl, ?_⟩; have n0_ := mK (Kd.R_below (by (with_reducible repeat (first | apply Kd.R_alloc | apply Kd.R_drewN | apply Kd.R_drew)); exact HO_7.out) hb); have n1_ := mK (bP (by repeat (first | (with_reducible first | exact HB.out | apply bA | apply bN | apply bD) | exact HB.out)) hb); clear HO_7; clear HB; have HO_7 := n0_; have HB := n1_; clear n0_ n1_; (try clear hb); (try clear hk)) | ((with_reducible refine gate_builtin (b := .append) (xs := #[.tmp 72, .tmp 74]) rfl ?_); at_builtin; refine Kd.R_append (Kd.int .u32) (w0 := w) w.heap.size rfl (.tmp 72) (.tmp 74) 30 22 (.int .u32 0) 4 rfl Try.underlying30 info22 rfl (by decide) (by omega) (.slice Ao18 x7_1.length co18) x7_1 t334 [.int .u32 t334] (fun _ => True) (fun _ => False) rfl rfl ?aP (fun _ hk => hk.elim) ?aF ?aO ?aB ?aS ?aL ?_; (case aP => exact rfl); (case aB => exact (by repeat (first | (with_reducible first | exact HB.out | apply bA | apply bN | apply bD) | exact HB.out))); (case aF => exact (fun _ _ => trivial)); (case aO => exact (by (with_reducible repeat (first | apply Kd.R_alloc | apply Kd.R_drewN | apply Kd.R_drew)); exact HO_7.out)); (case aS => exact (bZ (by repeat (first | (with_reducible first | exact HB.out | apply bA | apply bN | apply bD) | exact HB.out)))); (case aL => have := LMc30.out; omega); intro v342 w32 ho hb hg hat; rw [← Ny341.out] at ho; have n0_ := mK (hb); have n1_ := mK (ho); clear HB; clear HO_7; have HB := n0_; have HO343 := n1_; clear n0_ n1_; clear ho hb hg hat))
                    go_roundg kj16
                    case measure => have := HK1.out; have := HJ16.out; omega
                    case rel => exact ⟨(x6_1), (y341), ((wrap64 (x9_1 + 1))), (wrap64 (x9_1 + 1)), (by first | rfl | (simp; done) | (simp [*]; done)), (by first | rfl | (simp; done) | (simp [*]; done)), (by first | rfl | (simp; done) | (simp [*]; done)), H', ⟨by have := HK1.out; have := HJ16.out; omega⟩, ⟨by (with_reducible repeat (first | apply Kd.R_alloc | apply Kd.R_drewN | apply Kd.R_drew)); exact HO343.out⟩, ⟨by repeat (first | (with_reducible first | exact HB.out | apply bA | apply bN | apply bD) | exact HB.out)⟩⟩
                   ·
                    rw [if_neg c30] at H
                    exact absurd H (by simp)
                  ·
                   rw [if_neg c29] at H
                   have c29b0 : (s9.toList == t340.toList) = false := bQ c29
                   have c29b1 : (s9.toList != t340.toList) = true := bne_iff_ne.mpr c29
                   simp only [Option.some.injEq, Prod.mk.injEq] at H
                   obtain ⟨rfl, rfl, rfl, rfl⟩ := H
                   go_wp2_with (first | ((with_reducible refine gate_callee (f := 10) rfl ?_); refine goesL_ (some 69) rfl rfl Try.func10 (by kernel_rfl) rfl #[.int .u32 ((x6_1 + ((4 * ((wrap64 ((wrap64 ((x7_1.length : Int) + 1)) - 1)) % 4294967296)) % 4294967296)) % 4294967296), .int .u32 t334] rfl (by (try simp only [List.map_toArray, List.map_cons, List.map_nil]); first | done | rfl) ?_; (with_reducible refine (pascalineref06_Line.calls kj16 ((x6_1 + ((4 * ((wrap64 ((wrap64 ((x7_1.length : Int) + 1)) - 1)) % 4294967296)) % 4294967296)) % 4294967296) t334 t340 _ A28.out).mono ?_); rintro e w33 ⟨rfl, hb⟩; refine ⟨_, rfl, ?_⟩; have n0_ := mK (Kd.R_below (by (with_reducible repeat (first | apply Kd.R_alloc | apply Kd.R_drewN | apply Kd.R_drew)); exact HO_7.out) hb); have n1_ := mK (bP (by repeat (first | (with_reducible first | exact HB.out | apply bA | apply bN | apply bD) | exact HB.out)) hb); clear HO_7; clear HB; have HO_7 := n0_; have HB := n1_; clear n0_ n1_; (try clear hb)))
                   refine bodyPost_ret (results_list (rs := [.tmp 2, .tmp 3, .tmp 4, .tmp 5]) rfl (by simp) (.tmp (.tmp (.tmp (.tmp .nil))))) rfl ?_
                   exact ⟨_, by first | rfl | (simp [errW_none, errW_some] <;> rfl) | (simp [*, errW_none, errW_some] <;> rfl), by first | exact Kd.R_nil _ _ _ _ _ | exact Kd.N_nil _ _ _ _ _ | exact Kd.V_nil _ _ _ _ _ | exact Kd.Q_nil _ _ _ _ _ | exact Kd.S_nil _ _ _ _ _, by repeat (first | (with_reducible first | exact HB.out | apply bA | apply bN | apply bD) | exact HB.out)⟩
             ·
              rw [if_neg c15] at H
              exact absurd H (by simp)
            ·
             rw [if_neg c14] at H
             exact absurd H (by simp)
           ·
            rw [if_neg c12] at H
            exact absurd H (by simp)
          ·
           rw [if_neg c11] at H
           exact absurd H (by simp)
        ·
         rw [if_neg c8] at H
         exact absurd H (by simp)
       ·
        rw [if_neg c7] at H
        exact absurd H (by simp)
      ·
       rw [if_neg c6] at H
       exact absurd H (by simp)
     ·
      rw [if_neg c5] at H
      have c5b0 : ((bt a0 x9_1) == 10) = false := bQ c5
      have c5b1 : ((bt a0 x9_1) != 10) = true := bne_iff_ne.mpr c5
      have H' := mK H
      clear H
      have p4 : 0 ≤ (x9_1 : Int) := of_decide_eq_true (by first | (with_reducible assumption) | assumption)
      have q4 : x9_1 < (a0.size : Int) := of_decide_eq_true (by first | (with_reducible assumption) | assumption)
      have hx4 := bt_at a0 x9_1
      replace p4 := eq_true p4
      replace q4 := eq_true q4
      go_wp2
      go_roundg k1
      case measure => have := HK1.out; omega
      case rel => exact ⟨(x6_1), (x7_1), (x8_1), (wrap64 (x9_1 + 1)), (by first | rfl | (simp; done) | (simp [*]; done)), (by first | rfl | (simp; done) | (simp [*]; done)), (by first | rfl | (simp; done) | (simp [*]; done)), H', ⟨by have := HK1.out; omega⟩, ⟨by (with_reducible repeat (first | apply Kd.R_alloc | apply Kd.R_drewN | apply Kd.R_drew)); exact HO_7.out⟩, ⟨by repeat (first | (with_reducible first | exact HB.out | apply bA | apply bN | apply bD) | exact HB.out)⟩⟩
    ·
     rw [if_neg c3] at H
     exact absurd H (by simp)
   ·
    rw [if_neg c2] at H
    have c2b0 : decide (x9_1 < (a0.size : Int)) = false := decide_eq_false c2
    clear c2
    by_cases c34 : x8_1 < (a0.size : Int)
    ·
     rw [if_pos c34] at H
     have c34b0 : decide (x8_1 < (a0.size : Int)) = true := decide_eq_true c34
     clear c34
     simp only [Option.some.injEq, Prod.mk.injEq] at H
     obtain ⟨rfl, rfl, rfl, rfl⟩ := H
     obtain ⟨Ao35, co35, eo35⟩ := Kd.R_slice HO_7.out
     subst eo35
     go_wp2
     refine bodyPost_ret (results_list (rs := [.tmp 2, .tmp 3, .tmp 4, .tmp 5]) rfl (by simp) (.tmp (.tmp (.tmp (.tmp .nil))))) rfl ?_
     exact ⟨_, by first | rfl | (simp [errW_none, errW_some] <;> rfl) | (simp [*, errW_none, errW_some] <;> rfl), by first | exact Kd.R_nil _ _ _ _ _ | exact Kd.N_nil _ _ _ _ _ | exact Kd.V_nil _ _ _ _ _ | exact Kd.Q_nil _ _ _ _ _ | exact Kd.S_nil _ _ _ _ _, by repeat (first | (with_reducible first | exact HB.out | apply bA | apply bN | apply bD) | exact HB.out)⟩
    ·
     rw [if_neg c34] at H
     have c34b0 : decide (x8_1 < (a0.size : Int)) = false := decide_eq_false c34
     clear c34
     simp only [Option.some.injEq, Prod.mk.injEq] at H
     obtain ⟨rfl, rfl, rfl, rfl⟩ := H
     go_wp2
     refine bodyPost_ret (results_list (rs := [.tmp 2, .tmp 3, .tmp 4, .tmp 5]) rfl (by simp) (.tmp (.tmp (.tmp (.tmp .nil))))) rfl ?_
     exact ⟨_, by first | rfl | (simp [errW_none, errW_some] <;> rfl) | (simp [*, errW_none, errW_some] <;> rfl), by (with_reducible repeat (first | apply Kd.R_alloc | apply Kd.R_drewN | apply Kd.R_drew)); exact HO_7.out, by repeat (first | (with_reducible first | exact HB.out | apply bA | apply bN | apply bD) | exact HB.out)⟩

end Go.Proofs.Ytfagpgpeiomnpaa.P

namespace Go.Proofs.Ytfagpgpeiomnpaa.P
open Go.RowKit Go.Proofs.YtfagpgpeiomnpaaW.PrintWords Go.Proofs.YtfagpgpeiomnpaaW.PrintLast Go.Proofs.YtfagpgpeiomnpaaW.PrintMore
attribute [local go_sem] max2_int min2_int max_two min_two max_three min_three max_four min_four   -- for this text's walks alone
set_option linter.unusedVariables false
set_option linter.unusedSimpArgs false

/-! ### pascalineref01_Words: function 15 -/
def pascalineref01_Words.l0 : Nat → List Int → List Int → Int → Option (Bool)
 | 0, _, _, _ => none
 | k + 1, x0, x1, x5 => if x5 < (x0.length : Int) then (if 0 ≤ x5 then (if x5 < (x1.length : Int) then (if (rd x0 x5) = (rd x1 x5) then (pascalineref01_Words.l0 k x0 x1 (wrap64 (x5 + 1))) else (some false)) else (none)) else (none)) else (some true)
def pascalineref01_Words.f (k : Nat) (l0 : List Int) (l1 : List Int) : Option (Bool) := if (l0.length : Int) = (l1.length : Int) then (pascalineref01_Words.l0 k l0 l1 0) else (some false)
theorem pascalineref01_Words.mono_l : ∀ k, (∀ y0 y1 y2, LeO (pascalineref01_Words.l0 k y0 y1 y2) (pascalineref01_Words.l0 (k + 1) y0 y1 y2))
 | 0 => fun _ _ _ r h => by simp [pascalineref01_Words.l0] at h
 | k + 1 => by
  have ih0 := pascalineref01_Words.mono_l k
  ·
   intro y0 y1 y2
   unfold pascalineref01_Words.l0
   repeat' first
   | (with_reducible exact ih0 _ _ _)
   | (with_reducible exact LeO.refl _)
   | (with_reducible exact LeO.none _)
   | (with_reducible refine LeO.ite ?_ ?_)
   | (with_reducible refine LeO.bind ?_ (fun _ => ?_))
   | exact LeO.none _
   | refine LeO.ite ?_ ?_
   | refine LeO.bind ?_ (fun _ => ?_)
theorem pascalineref01_Words.mono : ∀ a0 a1 k, LeO (pascalineref01_Words.f k a0 a1) (pascalineref01_Words.f (k + 1) a0 a1) := by
 intro a0 a1 k
 have ih0 := pascalineref01_Words.mono_l k
 unfold pascalineref01_Words.f
 repeat' first
  | (with_reducible exact ih0 _ _ _)
  | (with_reducible exact LeO.refl _)
  | (with_reducible exact LeO.none _)
  | (with_reducible refine LeO.ite ?_ ?_)
  | (with_reducible refine LeO.bind ?_ (fun _ => ?_))
  | exact LeO.none _
  | refine LeO.ite ?_ ?_
  | refine LeO.bind ?_ (fun _ => ?_)
set_option maxHeartbeats 8000000 in
set_option maxRecDepth 100000 in
theorem pascalineref01_Words.calls (k : Nat) (A0 : Option Addr) (c0 : Nat) (l0 : List Int) (A1 : Option Addr) (c1 : Nat) (l1 : List Int) (r : Bool) (w : World) (hr0 : Kd.C (Kd.int .u32) w A0 l0.length l0) (hc0 : l0.length ≤ c0) (hr1 : Kd.C (Kd.int .u32) w A1 l1.length l1) (hc1 : l1.length ≤ c1) (h : pascalineref01_Words.f k l0 l1 = some r) :
 Calls Try.prog 15 #[.slice A0 l0.length c0, .slice A1 l1.length c1] w fun e w' => e = .returned (.bool r) ∧ Drawn0 w w' := by
 have HR0 := mK hr0
 have HC0 := mK hc0
 clear hr0 hc0
 have HR1 := mK hr1
 have HC1 := mK hc1
 clear hr1 hc1
 have H : (if (l0.length : Int) = (l1.length : Int) then (pascalineref01_Words.l0 k l0 l1 0) else (some false)) = some r := h
 clear h
 by_cases c3 : (l0.length : Int) = (l1.length : Int)
 ·
  rw [if_pos c3] at H
  have c3b0 : ((l0.length : Int) == (l1.length : Int)) = true := beq_iff_eq.mpr c3
  have c3b1 : ((l0.length : Int) != (l1.length : Int)) = false := bR c3
  have c3b2 : (l0.length == l1.length) = true := by first | simpa using c3 | (simp at c3 ⊢; omega)
  clear c3
  have H' := mK H
  clear H
  go_enter Try.func15, Try.ntmps15
  go_wp2
  repeat (go_quiet (fail); try go_wp2)
  go_loopg [5] k (fun kq v5 w' => ∃ (x5_1 : Int), v5 = .int .i64 x5_1 ∧ Aside0 (pascalineref01_Words.l0 kq l0 l1 x5_1 = some r) ∧ Aside0 (kq ≤ k) ∧ Drawn0 w w')
  case atStart => exact ⟨(0), (by first | rfl | (simp; done) | (simp [*]; done)), H', ⟨Nat.le_refl _⟩, by repeat (first | exact Drawn0.refl _ | apply Drawn0.step)⟩
  case round =>
   clear H'
   (try clear c1); (try clear c3); (try clear c3b0); (try clear c3b1); (try clear c3b2)
   obtain ⟨x5_1, rfl, HA, HK1, ⟨m1, rfl⟩⟩ := hrel
   cases gk with
   | zero => exact absurd HA.out (by simp [pascalineref01_Words.l0])
   | succ k1 =>
    have H := HA.out
    clear HA
    simp only [pascalineref01_Words.l0] at H
    by_cases c4 : x5_1 < (l0.length : Int)
    ·
     rw [if_pos c4] at H
     have c4b0 : decide (x5_1 < (l0.length : Int)) = true := decide_eq_true c4
     clear c4
     by_cases c5 : 0 ≤ x5_1
     ·
      rw [if_pos c5] at H
      have c5b0 : decide (0 ≤ x5_1) = true := decide_eq_true c5
      clear c5
      by_cases c6 : x5_1 < (l1.length : Int)
      ·
       rw [if_pos c6] at H
       have c6b0 : decide (x5_1 < (l1.length : Int)) = true := decide_eq_true c6
       clear c6
       by_cases c7 : (rd l0 x5_1) = (rd l1 x5_1)
       ·
        rw [if_pos c7] at H
        have c7b0 : ((rd l0 x5_1) == (rd l1 x5_1)) = true := beq_iff_eq.mpr c7
        have c7b1 : ((rd l0 x5_1) != (rd l1 x5_1)) = false := bR c7
        clear c7
        have H' := mK H
        clear H
        have p344 : 0 ≤ (x5_1 : Int) := of_decide_eq_true (by first | (with_reducible assumption) | assumption)
        have q344 : x5_1 < (l0.length : Int) := of_decide_eq_true (by first | (with_reducible assumption) | assumption)
        obtain ⟨ad344, e344, hx344_0⟩ := Kd.at_int HR0.out x5_1 p344 q344
        cases e344
        replace p344 := eq_true p344
        replace q344 := eq_true q344
        have p345 : 0 ≤ (x5_1 : Int) := of_decide_eq_true (by first | (with_reducible assumption) | assumption)
        have q345 : x5_1 < (l1.length : Int) := of_decide_eq_true (by first | (with_reducible assumption) | assumption)
        obtain ⟨ad345, e345, hx345_0⟩ := Kd.at_int HR1.out x5_1 p345 q345
        cases e345
        replace p345 := eq_true p345
        replace q345 := eq_true q345
        go_wp2
        repeat (go_quiet (fail); try go_wp2)
        go_roundg k1
        case measure => have := HK1.out; omega
        case rel => exact ⟨(wrap64 (x5_1 + 1)), (by first | rfl | (simp; done) | (simp [*]; done)), H', ⟨by have := HK1.out; omega⟩, by repeat (first | exact Drawn0.refl _ | apply Drawn0.step)⟩
       ·
        rw [if_neg c7] at H
        have c7b0 : ((rd l0 x5_1) == (rd l1 x5_1)) = false := bQ c7
        have c7b1 : ((rd l0 x5_1) != (rd l1 x5_1)) = true := bne_iff_ne.mpr c7
        obtain rfl := Option.some.inj H
        have p344 : 0 ≤ (x5_1 : Int) := of_decide_eq_true (by first | (with_reducible assumption) | assumption)
        have q344 : x5_1 < (l0.length : Int) := of_decide_eq_true (by first | (with_reducible assumption) | assumption)
        obtain ⟨ad344, e344, hx344_0⟩ := Kd.at_int HR0.out x5_1 p344 q344
        cases e344
        replace p344 := eq_true p344
        replace q344 := eq_true q344
        have p345 : 0 ≤ (x5_1 : Int) := of_decide_eq_true (by first | (with_reducible assumption) | assumption)
        have q345 : x5_1 < (l1.length : Int) := of_decide_eq_true (by first | (with_reducible assumption) | assumption)
        obtain ⟨ad345, e345, hx345_0⟩ := Kd.at_int HR1.out x5_1 p345 q345
        cases e345
        replace p345 := eq_true p345
        replace q345 := eq_true q345
        go_wp2
        repeat (go_quiet (fail); try go_wp2)
        go_ret
        exact ⟨by first | rfl | (simp; done) | (simp [*]; done), by repeat (first | exact Drawn0.refl _ | apply Drawn0.step)⟩
      ·
       rw [if_neg c6] at H
       exact absurd H (by simp)
     ·
      rw [if_neg c5] at H
      exact absurd H (by simp)
    ·
     rw [if_neg c4] at H
     have c4b0 : decide (x5_1 < (l0.length : Int)) = false := decide_eq_false c4
     clear c4
     obtain rfl := Option.some.inj H
     go_wp2
     repeat (go_quiet (fail); try go_wp2)
     go_ret
     exact ⟨by first | rfl | (simp; done) | (simp [*]; done), by repeat (first | exact Drawn0.refl _ | apply Drawn0.step)⟩
 ·
  rw [if_neg c3] at H
  have c3b0 : ((l0.length : Int) == (l1.length : Int)) = false := bQ c3
  have c3b1 : ((l0.length : Int) != (l1.length : Int)) = true := bne_iff_ne.mpr c3
  have c3b2 : (l0.length == l1.length) = false := by first | simpa using c3 | (simp at c3 ⊢; omega)
  obtain rfl := Option.some.inj H
  go_enter Try.func15, Try.ntmps15
  go_wp2
  repeat (go_quiet (fail); try go_wp2)
  go_ret
  exact ⟨by first | rfl | (simp; done) | (simp [*]; done), by repeat (first | exact Drawn0.refl _ | apply Drawn0.step)⟩

end Go.Proofs.Ytfagpgpeiomnpaa.P

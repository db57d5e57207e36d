/- Printed parts. -/
import Derived.Test.YtmebogkhdbbbbaaPx0
import Derived.Test.YtmebogkhdbbbbaaCCf
namespace Go.Proofs.Ytmebogkhdbbbbaa.P
open Go.RowKit Go.Proofs.YtmebogkhdbbbbaaW.PrintWords Go.Proofs.YtmebogkhdbbbbaaW.PrintLast Go.Proofs.YtmebogkhdbbbbaaW.PrintMore
attribute [local go_sem] max2_int min2_int max_two min_two max_three min_three max_four min_four   -- for this text's walks alone
set_option linter.unusedVariables false
set_option linter.unusedSimpArgs false

/-! ### word_digits: function 36 -/
open Go.Proofs.Ytmebogkhdbbbbaa.C
def word_digits.f (n b least : Int) : Option ByteArray :=
 if b = 10 ∨ b = 16 then (if (0 ≤ n ∧ n < 18446744073709551616) ∧ 1 ≤ least ∧ least ≤ 64 then some (strOfNums (digs b 65 n (min 64 (max least 1).toNat))) else none) else none

theorem word_digits.inv {n b least : Int} {r : ByteArray} (h : word_digits.f n b least = some r) : (2 ≤ b ∧ b ≤ 16) ∧ (0 ≤ n ∧ n < 18446744073709551616) ∧ (1 ≤ least ∧ least ≤ 64) ∧ r = strOfNums (digs b 65 n (min 64 (max least 1).toNat)) := by
 unfold word_digits.f at h
 by_cases h1 : b = 10 ∨ b = 16
 ·
  rw [if_pos h1] at h
  by_cases h2 : (0 ≤ n ∧ n < 18446744073709551616) ∧ 1 ≤ least ∧ least ≤ 64
  ·
   rw [if_pos h2] at h
   injection h with h
   exact ⟨by omega, h2.1, h2.2, h.symm⟩
  ·
   rw [if_neg h2] at h; cases h
 ·
  rw [if_neg h1] at h; cases h

def word_digits.Inv (w w' : World) (g : Nat) (b n : Int) (m0 : Nat) (x : Int) (a : Nat) (xs : List Int) : Prop :=
 a ≤ 64 ∧ 0 ≤ x ∧ x < 2 ^ a ∧ xs.length = 64 ∧ w'.heap[g]? = some (.cells (nums .u8 xs).toArray 108 (0, 0)) ∧ digs b (a + 1) x (m0 - (64 - a)) ++ xs.drop a = digs b 65 n m0 ∧ Below w.heap.size w w'

theorem word_digits.Inv.cell {w w' : World} {g : Nat} {b n : Int} {m0 : Nat} {x : Int} {a : Nat} {xs : List Int} (h : word_digits.Inv w w' g b n m0 x a xs) (ha : 1 ≤ a) :
 w'.cell? ⟨g, a - 1, none⟩ = some (.int .u8 (xs.getD (a - 1) 0)) := by
 rw [kC h.2.2.2.2.1]
 have h1 := h.1
 have h2 := h.2.2.2.1
 have h3 : a - 1 < xs.length := by omega
 simp [nums, List.getD_eq_getElem?_getD, h3]
theorem word_digits.Inv.free {w w' : World} {g : Nat} {b n : Int} {m0 : Nat} {x : Int} {a : Nat} {xs : List Int} (h : word_digits.Inv w w' g b n m0 x a xs) :
 w'.frozen? ⟨g, a - 1, none⟩ = false := kF h.2.2.2.2.1 _
theorem word_digits.Inv.step {w w' : World} {b n : Int} {m0 : Nat} {x x' : Int} {a : Nat} {xs : List Int} {v : Int} (h : word_digits.Inv w w' w.heap.size b n m0 x a xs) (ha : 1 ≤ a) (hb : 2 ≤ b) (hc : 0 < x ∨ 0 < m0 - (64 - a))
 (hv : v = dg (x % b)) (hx : x' = x / b) : word_digits.Inv w (w'.setCell ⟨w.heap.size, a - 1, none⟩ (.int .u8 v)) w.heap.size b n m0 x' (a - 1) (xs.set (a - 1) v) := by
 obtain ⟨h1, h2, h3, h4, h5, h6, h7⟩ := h
 obtain ⟨c, rfl⟩ : ∃ c, a = c + 1 := ⟨a - 1, by omega⟩
 have hd := digs_inv b hb x c h2 h3
 subst hx
 refine ⟨by omega, hd.1, hd.2, by simpa using h4, ?_, ?_, ?_⟩
 ·
  rw [blk_set h5]; congr 2; simp [nums]
 ·
  rw [← h6, digs_succ b (c + 1), if_pos hc, hv]
  have e1 : c + 1 - 1 = c := by omega
  have e2 : m0 - (64 - (c + 1)) - 1 = m0 - (64 - c) := by omega
  rw [e1, e2, List.append_assoc]
  congr 1
  rw [List.drop_set, if_neg (by omega)]
  have h8 : c < xs.length := by omega
  rw [List.drop_eq_getElem_cons h8]
  simp only [Nat.sub_self, List.set_cons_zero]
  rfl
 ·
  exact h7.setCell (Nat.le_refl _) _
theorem word_digits.Inv.final {w w' : World} {g : Nat} {b n : Int} {m0 : Nat} {x : Int} {a : Nat} {xs : List Int} (h : word_digits.Inv w w' g b n m0 x a xs) (hc : ¬ (0 < x ∨ 0 < m0 - (64 - a))) : xs.drop a = digs b 65 n m0 := by
 rw [← h.2.2.2.2.2.1, digs_succ, if_neg hc]; rfl
theorem word_digits.Inv.conv {w w' : World} {g : Nat} {b n : Int} {m0 : Nat} {x : Int} {a : Nat} {xs : List Int} (h : word_digits.Inv w w' g b n m0 x a xs) (hc : ¬ (0 < x ∨ 0 < m0 - (64 - a))) (src e dst : Nat) (hs : Try.prog.underlying src = some (.slice e)) (he : Try.prog.underlying e = some (.int .u8)) (hd : Try.prog.underlying dst = some .string) :
 (convert src dst (.slice (some ⟨g, a, none⟩) (64 - a) (64 - a))).run Try.prog w' = .ok (.string (strOfNums (digs b 65 n m0))) w' := by
 have hl := h.2.2.2.1
 rw [← h.final hc]
 refine run_convert_bytes_arg w' src e hs he g a _ _ (xs.drop a) (by simp [hl]) (fun i hi => ?_) dst hd
 rw [kC h.2.2.2.2.1]
 have h3 : a + i < xs.length := by omega
 simp [nums, List.getD_eq_getElem?_getD, h3]

theorem word_digits.wrap_div (x b : Int) (h0 : 0 ≤ x) (h1 : x < 2 ^ 64) (hb : 2 ≤ b) : IntKind.u64.wrap (x.tdiv b) = x / b := by
 rw [Int.tdiv_eq_ediv_of_nonneg h0]
 have hd := digs_inv b hb x 63 h0 h1
 have : (2:Int)^63 = 9223372036854775808 := by decide
 exact IntWalk.u64_in _ (by omega)

theorem word_digits.cut_arr {P : Program} (t e len : Nat) (kl : IntKind) (ht : P.underlying t = some (.array len e)) (hinfo : (P.info? e).map (fun i => i.size) = some 1) (g a : Nat) (h : a < len) :
 ∀ W : World, (Instr.sliceAt t (.pointer (some ⟨g, 0, none⟩)) (some (.int kl (a : Int))) none none).run P W = .ok (.slice (some ⟨g, a, none⟩) (len - a) (len - a)) W := by
 intro W
 obtain ⟨i, hi, hsz⟩ := Option.map_eq_some_iff.1 hinfo
 have hel : P.elem t = e := by simp [Program.elem, ht]
 have hle : P.arrayLen t = len := by simp [Program.arrayLen, ht]
 have hu : P.underlying t = some (.array (P.arrayLen t) (P.elem t)) := by rw [hel, hle]; exact ht
 rw [run_sliceAt_array_l W t ⟨g, 0, none⟩ hu kl (a : Int) (Int.natCast_nonneg _) (by omega), hel, hle]
 simp [sizeOf, typeInfo, hi, hsz, slicedAt, Result.andThen, add_plain]
 omega

set_option maxHeartbeats 400000 in
set_option maxRecDepth 100000 in
theorem word_digits.calls (n b least : Int) (r : ByteArray) (w : World) (h : word_digits.f n b least = some r) :
 Calls Try.prog 36 #[.int .u64 n, .int .u64 b, .int .i64 least] w fun e w' => e = .returned (.string r) ∧ Below w.heap.size w w' := by
 obtain ⟨⟨hb2, hb16⟩, hn, ⟨hl1, hl64⟩, hr⟩ := word_digits.inv h
 have HR := mK hr
 have HN := mK hn
 clear hn hr h
 go_enter Try.func36, Try.ntmps36
 go_wp2
 go_loopg [0, 8] 65 (fun kq v0 v8 w' => ∃ (x : Int) (a : Nat) (xs : List Int), v0 = .int .u64 x ∧ v8 = .int .i64 a ∧ Aside0 (kq = a + 1) ∧ Aside0 (word_digits.Inv w w' w.heap.size b n (min 64 (max least 1).toNat) x a xs))
 case atStart =>
  refine ⟨n, 64, List.replicate 64 0, rfl, rfl, ⟨rfl⟩, ⟨by omega, HN.out.1, by have := HN.out.2; omega, rfl, ?_, ?_, ?_⟩⟩
  ·
   rw [blk_new]; rfl
  ·
   simp
  ·
   exact bA (Below.refl _ _) _
 case round =>
  obtain ⟨x, a, xs, rfl, rfl, HK, HI⟩ := hrel
  have ha := HI.out.1
  have hx0 := HI.out.2.1
  by_cases hc : 0 < x ∨ 0 < min 64 (max least 1).toNat - (64 - a)
  ·
   have ha1 : 1 ≤ a := by
    rcases hc with hc | hc
    ·
     have := HI.out.2.2.1
     rcases Nat.eq_zero_or_pos a with h0 | h0
     ·
      subst h0; simp at this; omega
     ·
      exact h0
    ·
     omega
   have hcell := HI.out.cell ha1
   have hfree := HI.out.free
   have hm0 : 0 ≤ x % b := Int.emod_nonneg _ (by omega)
   have hm1 : x % b < b := Int.emod_lt_of_pos _ (by omega)
   have HX : Aside0 (IntKind.u64.wrap (x.tdiv b) = x / b) := ⟨word_digits.wrap_div x b hx0 (Int.lt_of_lt_of_le HI.out.2.2.1 (by exact_mod_cast Nat.pow_le_pow_right (by omega) ha)) hb2⟩
   by_cases hd : x % b < 10
   all_goals
    by_cases hc1 : 0 < x
    ·
     have hc1b : decide (0 < x) = true := decide_eq_true hc1
     have HC := mK hc
     clear hc
     go_wp2
     go_roundg a
     case measure => have := HK.out; omega
     case rel => exact ⟨_, a - 1, _, rfl, by congr 1; omega, ⟨by omega⟩, ⟨HI.out.step ha1 hb2 HC.out (by first | exact dg_lo _ hd | exact dg_hi _ hd) (by first | exact HX.out | rfl)⟩⟩
    ·
     have hc1b : decide (0 < x) = false := decide_eq_false hc1
     have h63 : 64 - least < a := by omega
     have HC := mK hc
     clear hc
     go_wp2
     go_roundg a
     case measure => have := HK.out; omega
     case rel => exact ⟨_, a - 1, _, rfl, by congr 1; omega, ⟨by omega⟩, ⟨HI.out.step ha1 hb2 HC.out (by first | exact dg_lo _ hd | exact dg_hi _ hd) (by first | exact HX.out | rfl)⟩⟩
  ·
   have hc1 : ¬ 0 < x := by omega
   have hc1b : decide (0 < x) = false := decide_eq_false hc1
   have ha63 : a < 64 := by omega
   have hsl := word_digits.cut_arr (P := Try.prog) 108 5 64 .i64 Try.underlying108 (by kernel_rfl) w.heap.size a ha63
   have hcv := HI.out.conv hc 79 5 9 Try.underlying79 Try.underlying5 Try.underlying9
   have h63 : ¬ 64 - least < a := by omega
   have HC := mK hc
   clear hc
   go_wp2
   go_ret
   exact ⟨by rw [HR.out]; rfl, HI.out.2.2.2.2.2.2⟩


/-! ### word_Text: function 18 -/
def word_Text.f (a0 : Int) : Option (ByteArray) := if a0 < 0 then ((word_digits.f (IntKind.u64.wrap (wrap64 (-a0))) 10 1).bind fun t101 => (if 1 + t101.size ≤ 9223372036854775807 then (some ((⟨#[45]⟩ : ByteArray) ++ t101)) else (none))) else ((word_digits.f (IntKind.u64.wrap (a0)) 10 1).bind fun t102 => (some t102))
set_option maxHeartbeats 8000000 in
set_option maxRecDepth 100000 in
theorem word_Text.calls (a0 : Int) (r : ByteArray) (w : World) (h : word_Text.f a0 = some r) :
 Calls Try.prog 18 #[.int .i64 a0] w fun e w' => e = .returned (.string r) ∧ Below w.heap.size w w' := by
 have HB := mK (Below.refl w.heap.size w)
 have H : (if a0 < 0 then ((word_digits.f (IntKind.u64.wrap (wrap64 (-a0))) 10 1).bind fun t101 => (if 1 + t101.size ≤ 9223372036854775807 then (some ((⟨#[45]⟩ : ByteArray) ++ t101)) else (none))) else ((word_digits.f (IntKind.u64.wrap (a0)) 10 1).bind fun t102 => (some t102))) = some r := h
 clear h
 by_cases c2 : a0 < 0
 ·
  rw [if_pos c2] at H
  have c2b0 : decide (a0 < 0) = true := decide_eq_true c2
  clear c2
  replace H := oB H
  obtain ⟨t101, A30, H⟩ := H
  replace H : (if 1 + t101.size ≤ 9223372036854775807 then (some ((⟨#[45]⟩ : ByteArray) ++ t101)) else (none)) = some r := H
  have A3 := mK A30
  clear A30
  by_cases c4 : 1 + t101.size ≤ 9223372036854775807
  ·
   rw [if_pos c4] at H
   have c4b0 := eq_true c4
   have c4b1 : decide (1 + t101.size ≤ 9223372036854775807) = true := decide_eq_true c4
   try have c4b2 : (9223372036854775807 < 1 + t101.size) = False := eq_false (Nat.not_lt.2 c4)
   obtain rfl := Option.some.inj H
   go_enter Try.func18, Try.ntmps18
   go_wp2_with (first | ((with_reducible refine gate_callee (f := 36) rfl ?_); refine goesL_ (some 8) rfl rfl Try.func36 (by kernel_rfl) rfl #[.int .u64 (IntKind.u64.wrap (wrap64 (-a0))), .int .u64 10, .int .i64 1] rfl (by (try simp only [List.map_toArray, List.map_cons, List.map_nil]); first | done | rfl) ?_; (with_reducible refine (word_digits.calls (IntKind.u64.wrap (wrap64 (-a0))) 10 1 t101 _ A3.out).mono ?_); rintro e w5 ⟨rfl, hb⟩; refine ⟨_, rfl, ?_⟩; have n0_ := mK (bP (by repeat (first | (with_reducible first | exact HB.out | apply bA | apply bN | apply bD) | exact HB.out)) hb); clear HB; have HB := n0_; clear n0_; (try clear hb)))
   go_ret
   exact ⟨by first | rfl | (simp [errW_none, errW_some] <;> rfl) | (simp [*, errW_none, errW_some] <;> rfl), by repeat (first | (with_reducible first | exact HB.out | apply bA | apply bN | apply bD) | exact HB.out)⟩
  ·
   rw [if_neg c4] at H
   exact absurd H (by simp)
 ·
  rw [if_neg c2] at H
  have c2b0 : decide (a0 < 0) = false := decide_eq_false c2
  clear c2
  replace H := oB H
  obtain ⟨t102, A60, H⟩ := H
  replace H : (some t102) = some r := H
  have A6 := mK A60
  clear A60
  obtain rfl := Option.some.inj H
  go_enter Try.func18, Try.ntmps18
  go_wp2_with (first | ((with_reducible refine gate_callee (f := 36) rfl ?_); refine goesL_ (some 12) rfl rfl Try.func36 (by kernel_rfl) rfl #[.int .u64 (IntKind.u64.wrap (a0)), .int .u64 10, .int .i64 1] rfl (by (try simp only [List.map_toArray, List.map_cons, List.map_nil]); first | done | rfl) ?_; (with_reducible refine (word_digits.calls (IntKind.u64.wrap (a0)) 10 1 t102 _ A6.out).mono ?_); rintro e w7 ⟨rfl, hb⟩; refine ⟨_, rfl, ?_⟩; have n0_ := mK (bP (by repeat (first | (with_reducible first | exact HB.out | apply bA | apply bN | apply bD) | exact HB.out)) hb); clear HB; have HB := n0_; clear n0_; (try clear hb)))
  go_ret
  exact ⟨by first | rfl | (simp [errW_none, errW_some] <;> rfl) | (simp [*, errW_none, errW_some] <;> rfl), by repeat (first | (with_reducible first | exact HB.out | apply bA | apply bN | apply bD) | exact HB.out)⟩


/-! ### report_more: function 25 -/
def report_more.j0 : Nat → Int → Int → Bool → Option (ByteArray)
 | 0, _, _, _ => none
 | k + 1, x0, x3, x26 => if x26 = true then (some (⟨#[116, 111, 111, 32, 109, 117, 99, 104, 32, 99, 111, 100, 101]⟩ : ByteArray)) else (if x3 = 243 then (some (⟨#[116, 111, 111, 32, 109, 97, 110, 121, 32, 109, 111, 100, 117, 108, 101, 115]⟩ : ByteArray)) else (if x3 = 244 then (some (⟨#[116, 111, 111, 32, 109, 97, 110, 121, 32, 118, 97, 114, 105, 97, 98, 108, 101, 115]⟩ : ByteArray)) else (if x3 = 270 then (some (⟨#[116, 111, 111, 32, 103, 114, 101, 97, 116, 32, 102, 111, 114, 32, 116, 104, 101, 32, 109, 97, 99, 104, 105, 110, 101]⟩ : ByteArray)) else (if x3 = 33 then (some (⟨#[116, 111, 111, 32, 103, 114, 101, 97, 116, 32, 102, 111, 114, 32, 116, 104, 101, 32, 109, 97, 99, 104, 105, 110, 101]⟩ : ByteArray)) else ((word_Text.f x0).bind fun t103 => (if 6 + t103.size ≤ 9223372036854775807 then (some ((⟨#[101, 114, 114, 111, 114, 32]⟩ : ByteArray) ++ t103)) else (none)))))))
def report_more.f (k : Nat) (a0 : Int) : Option (ByteArray) := if a0 = 51 then (some (⟨#[116, 104, 105, 115, 32, 110, 97, 109, 101, 32, 105, 115, 32, 116, 104, 101, 114, 101, 32, 97, 108, 114, 101, 97, 100, 121]⟩ : ByteArray)) else (if a0 = 90 then (some (⟨#[116, 104, 105, 115, 32, 105, 115, 32, 116, 111, 111, 32, 103, 114, 101, 97, 116, 44, 32, 111, 114, 32, 116, 111, 111, 32, 115, 109, 97, 108, 108]⟩ : ByteArray)) else (if a0 = 141 then (some (⟨#[111, 116, 104, 101, 114, 115, 32, 109, 97, 121, 32, 110, 111, 116, 32, 117, 115, 101, 32, 116, 104, 105, 115]⟩ : ByteArray)) else (if a0 = 144 then (some (⟨#[116, 104, 101, 114, 101, 32, 105, 115, 32, 110, 111, 32, 115, 117, 99, 104, 32, 109, 111, 100, 117, 108, 101]⟩ : ByteArray)) else (if a0 = 143 then (some (⟨#[109, 111, 100, 117, 108, 101, 115, 32, 117, 115, 101, 32, 101, 97, 99, 104, 32, 111, 116, 104, 101, 114]⟩ : ByteArray)) else (if a0 = 142 then (some (⟨#[97, 32, 109, 111, 100, 117, 108, 101, 32, 104, 97, 115, 32, 99, 104, 97, 110, 103, 101, 100]⟩ : ByteArray)) else (if a0 = 201 then (some (⟨#[110, 111, 32, 82, 69, 84, 85, 82, 78, 32, 119, 105, 116, 104, 105, 110, 32, 84, 82, 89]⟩ : ByteArray)) else (if a0 = 202 then (some (⟨#[116, 104, 105, 115, 32, 101, 110, 100, 115, 32, 111, 116, 104, 101, 114, 119, 105, 115, 101]⟩ : ByteArray)) else (if a0 = 203 then (some (⟨#[116, 111, 111, 32, 109, 97, 110, 121, 32, 112, 97, 114, 97, 109, 101, 116, 101, 114, 115]⟩ : ByteArray)) else (if a0 = 240 then (some (⟨#[116, 111, 111, 32, 109, 117, 99, 104, 32, 119, 105, 116, 104, 105, 110, 32, 101, 97, 99, 104, 32, 111, 116, 104, 101, 114]⟩ : ByteArray)) else (if a0 = 241 then (some (⟨#[116, 111, 111, 32, 109, 97, 110, 121, 32, 110, 117, 109, 98, 101, 114, 115, 32, 119, 97, 105, 116]⟩ : ByteArray)) else (if a0 = 242 then (report_more.j0 k a0 a0 (a0 == 242)) else (report_more.j0 k a0 a0 (a0 == 52)))))))))))))
theorem report_more.mono_l : ∀ k, (∀ y0 y1 y2, LeO (report_more.j0 k y0 y1 y2) (report_more.j0 (k + 1) y0 y1 y2))
 | 0 => fun _ _ _ r h => by simp [report_more.j0] at h
 | k + 1 => by
  have ih0 := report_more.mono_l k
  ·
   intro y0 y1 y2
   unfold report_more.j0
   repeat' first
   | (with_reducible exact ih0 _ _ _)
   | (with_reducible exact LeO.refl _)
   | (with_reducible exact LeO.none _)
   | (with_reducible refine LeO.ite ?_ ?_)
   | (with_reducible refine LeO.bind ?_ (fun _ => ?_))
   | exact LeO.none _
   | refine LeO.ite ?_ ?_
   | refine LeO.bind ?_ (fun _ => ?_)
theorem report_more.mono : ∀ a0 k, LeO (report_more.f k a0) (report_more.f (k + 1) a0) := by
 intro a0 k
 have ih0 := report_more.mono_l k
 unfold report_more.f
 repeat' first
  | (with_reducible exact ih0 _ _ _)
  | (with_reducible exact LeO.refl _)
  | (with_reducible exact LeO.none _)
  | (with_reducible refine LeO.ite ?_ ?_)
  | (with_reducible refine LeO.bind ?_ (fun _ => ?_))
  | exact LeO.none _
  | refine LeO.ite ?_ ?_
  | refine LeO.bind ?_ (fun _ => ?_)
set_option maxHeartbeats 8000000 in
set_option maxRecDepth 100000 in
theorem report_more.calls (k : Nat) (a0 : Int) (r : ByteArray) (w : World) (h : report_more.f k a0 = some r) :
 Calls Try.prog 25 #[.int .i64 a0] w fun e w' => e = .returned (.string r) ∧ Below w.heap.size w w' := by
 have HB := mK (Below.refl w.heap.size w)
 have H : (if a0 = 51 then (some (⟨#[116, 104, 105, 115, 32, 110, 97, 109, 101, 32, 105, 115, 32, 116, 104, 101, 114, 101, 32, 97, 108, 114, 101, 97, 100, 121]⟩ : ByteArray)) else (if a0 = 90 then (some (⟨#[116, 104, 105, 115, 32, 105, 115, 32, 116, 111, 111, 32, 103, 114, 101, 97, 116, 44, 32, 111, 114, 32, 116, 111, 111, 32, 115, 109, 97, 108, 108]⟩ : ByteArray)) else (if a0 = 141 then (some (⟨#[111, 116, 104, 101, 114, 115, 32, 109, 97, 121, 32, 110, 111, 116, 32, 117, 115, 101, 32, 116, 104, 105, 115]⟩ : ByteArray)) else (if a0 = 144 then (some (⟨#[116, 104, 101, 114, 101, 32, 105, 115, 32, 110, 111, 32, 115, 117, 99, 104, 32, 109, 111, 100, 117, 108, 101]⟩ : ByteArray)) else (if a0 = 143 then (some (⟨#[109, 111, 100, 117, 108, 101, 115, 32, 117, 115, 101, 32, 101, 97, 99, 104, 32, 111, 116, 104, 101, 114]⟩ : ByteArray)) else (if a0 = 142 then (some (⟨#[97, 32, 109, 111, 100, 117, 108, 101, 32, 104, 97, 115, 32, 99, 104, 97, 110, 103, 101, 100]⟩ : ByteArray)) else (if a0 = 201 then (some (⟨#[110, 111, 32, 82, 69, 84, 85, 82, 78, 32, 119, 105, 116, 104, 105, 110, 32, 84, 82, 89]⟩ : ByteArray)) else (if a0 = 202 then (some (⟨#[116, 104, 105, 115, 32, 101, 110, 100, 115, 32, 111, 116, 104, 101, 114, 119, 105, 115, 101]⟩ : ByteArray)) else (if a0 = 203 then (some (⟨#[116, 111, 111, 32, 109, 97, 110, 121, 32, 112, 97, 114, 97, 109, 101, 116, 101, 114, 115]⟩ : ByteArray)) else (if a0 = 240 then (some (⟨#[116, 111, 111, 32, 109, 117, 99, 104, 32, 119, 105, 116, 104, 105, 110, 32, 101, 97, 99, 104, 32, 111, 116, 104, 101, 114]⟩ : ByteArray)) else (if a0 = 241 then (some (⟨#[116, 111, 111, 32, 109, 97, 110, 121, 32, 110, 117, 109, 98, 101, 114, 115, 32, 119, 97, 105, 116]⟩ : ByteArray)) else (if a0 = 242 then (report_more.j0 k a0 a0 (a0 == 242)) else (report_more.j0 k a0 a0 (a0 == 52)))))))))))))) = some r := h
 clear h
 by_cases c2 : a0 = 51
 ·
  rw [if_pos c2] at H
  have c2b0 : (a0 == 51) = true := beq_iff_eq.mpr c2
  have c2b1 : (a0 != 51) = false := bR c2
  clear c2
  obtain rfl := Option.some.inj H
  go_enter Try.func25, Try.ntmps25
  go_wp2
  go_ret
  exact ⟨by first | rfl | (simp [errW_none, errW_some] <;> rfl) | (simp [*, errW_none, errW_some] <;> rfl), by repeat (first | (with_reducible first | exact HB.out | apply bA | apply bN | apply bD) | exact HB.out)⟩
 ·
  rw [if_neg c2] at H
  have c2b0 : (a0 == 51) = false := bQ c2
  have c2b1 : (a0 != 51) = true := bne_iff_ne.mpr c2
  by_cases c3 : a0 = 90
  ·
   rw [if_pos c3] at H
   have c3b0 : (a0 == 90) = true := beq_iff_eq.mpr c3
   have c3b1 : (a0 != 90) = false := bR c3
   clear c3
   obtain rfl := Option.some.inj H
   go_enter Try.func25, Try.ntmps25
   go_wp2
   go_ret
   exact ⟨by first | rfl | (simp [errW_none, errW_some] <;> rfl) | (simp [*, errW_none, errW_some] <;> rfl), by repeat (first | (with_reducible first | exact HB.out | apply bA | apply bN | apply bD) | exact HB.out)⟩
  ·
   rw [if_neg c3] at H
   have c3b0 : (a0 == 90) = false := bQ c3
   have c3b1 : (a0 != 90) = true := bne_iff_ne.mpr c3
   by_cases c4 : a0 = 141
   ·
    rw [if_pos c4] at H
    have c4b0 : (a0 == 141) = true := beq_iff_eq.mpr c4
    have c4b1 : (a0 != 141) = false := bR c4
    clear c4
    obtain rfl := Option.some.inj H
    go_enter Try.func25, Try.ntmps25
    go_wp2
    go_ret
    exact ⟨by first | rfl | (simp [errW_none, errW_some] <;> rfl) | (simp [*, errW_none, errW_some] <;> rfl), by repeat (first | (with_reducible first | exact HB.out | apply bA | apply bN | apply bD) | exact HB.out)⟩
   ·
    rw [if_neg c4] at H
    have c4b0 : (a0 == 141) = false := bQ c4
    have c4b1 : (a0 != 141) = true := bne_iff_ne.mpr c4
    by_cases c5 : a0 = 144
    ·
     rw [if_pos c5] at H
     have c5b0 : (a0 == 144) = true := beq_iff_eq.mpr c5
     have c5b1 : (a0 != 144) = false := bR c5
     clear c5
     obtain rfl := Option.some.inj H
     go_enter Try.func25, Try.ntmps25
     go_wp2
     go_ret
     exact ⟨by first | rfl | (simp [errW_none, errW_some] <;> rfl) | (simp [*, errW_none, errW_some] <;> rfl), by repeat (first | (with_reducible first | exact HB.out | apply bA | apply bN | apply bD) | exact HB.out)⟩
    ·
     rw [if_neg c5] at H
     have c5b0 : (a0 == 144) = false := bQ c5
     have c5b1 : (a0 != 144) = true := bne_iff_ne.mpr c5
     by_cases c6 : a0 = 143
     ·
      rw [if_pos c6] at H
      have c6b0 : (a0 == 143) = true := beq_iff_eq.mpr c6
      have c6b1 : (a0 != 143) = false := bR c6
      clear c6
      obtain rfl := Option.some.inj H
      go_enter Try.func25, Try.ntmps25
      go_wp2
      go_ret
      exact ⟨by first | rfl | (simp [errW_none, errW_some] <;> rfl) | (simp [*, errW_none, errW_some] <;> rfl), by repeat (first | (with_reducible first | exact HB.out | apply bA | apply bN | apply bD) | exact HB.out)⟩
     ·
      rw [if_neg c6] at H
      have c6b0 : (a0 == 143) = false := bQ c6
      have c6b1 : (a0 != 143) = true := bne_iff_ne.mpr c6
      by_cases c7 : a0 = 142
      ·
       rw [if_pos c7] at H
       have c7b0 : (a0 == 142) = true := beq_iff_eq.mpr c7
       have c7b1 : (a0 != 142) = false := bR c7
       clear c7
       obtain rfl := Option.some.inj H
       go_enter Try.func25, Try.ntmps25
       go_wp2
       go_ret
       exact ⟨by first | rfl | (simp [errW_none, errW_some] <;> rfl) | (simp [*, errW_none, errW_some] <;> rfl), by repeat (first | (with_reducible first | exact HB.out | apply bA | apply bN | apply bD) | exact HB.out)⟩
      ·
       rw [if_neg c7] at H
       have c7b0 : (a0 == 142) = false := bQ c7
       have c7b1 : (a0 != 142) = true := bne_iff_ne.mpr c7
       by_cases c8 : a0 = 201
       ·
        rw [if_pos c8] at H
        have c8b0 : (a0 == 201) = true := beq_iff_eq.mpr c8
        have c8b1 : (a0 != 201) = false := bR c8
        clear c8
        obtain rfl := Option.some.inj H
        go_enter Try.func25, Try.ntmps25
        go_wp2
        go_ret
        exact ⟨by first | rfl | (simp [errW_none, errW_some] <;> rfl) | (simp [*, errW_none, errW_some] <;> rfl), by repeat (first | (with_reducible first | exact HB.out | apply bA | apply bN | apply bD) | exact HB.out)⟩
       ·
        rw [if_neg c8] at H
        have c8b0 : (a0 == 201) = false := bQ c8
        have c8b1 : (a0 != 201) = true := bne_iff_ne.mpr c8
        by_cases c9 : a0 = 202
        ·
         rw [if_pos c9] at H
         have c9b0 : (a0 == 202) = true := beq_iff_eq.mpr c9
         have c9b1 : (a0 != 202) = false := bR c9
         clear c9
         obtain rfl := Option.some.inj H
         go_enter Try.func25, Try.ntmps25
         go_wp2
         go_ret
         exact ⟨by first | rfl | (simp [errW_none, errW_some] <;> rfl) | (simp [*, errW_none, errW_some] <;> rfl), by repeat (first | (with_reducible first | exact HB.out | apply bA | apply bN | apply bD) | exact HB.out)⟩
        ·
         rw [if_neg c9] at H
         have c9b0 : (a0 == 202) = false := bQ c9
         have c9b1 : (a0 != 202) = true := bne_iff_ne.mpr c9
         by_cases c10 : a0 = 203
         ·
          rw [if_pos c10] at H
          have c10b0 : (a0 == 203) = true := beq_iff_eq.mpr c10
          have c10b1 : (a0 != 203) = false := bR c10
          clear c10
          obtain rfl := Option.some.inj H
          go_enter Try.func25, Try.ntmps25
          go_wp2
          go_ret
          exact ⟨by first | rfl | (simp [errW_none, errW_some] <;> rfl) | (simp [*, errW_none, errW_some] <;> rfl), by repeat (first | (with_reducible first | exact HB.out | apply bA | apply bN | apply bD) | exact HB.out)⟩
         ·
          rw [if_neg c10] at H
          have c10b0 : (a0 == 203) = false := bQ c10
          have c10b1 : (a0 != 203) = true := bne_iff_ne.mpr c10
          by_cases c11 : a0 = 240
          ·
           rw [if_pos c11] at H
           have c11b0 : (a0 == 240) = true := beq_iff_eq.mpr c11
           have c11b1 : (a0 != 240) = false := bR c11
           clear c11
           obtain rfl := Option.some.inj H
           go_enter Try.func25, Try.ntmps25
           go_wp2
           go_ret
           exact ⟨by first | rfl | (simp [errW_none, errW_some] <;> rfl) | (simp [*, errW_none, errW_some] <;> rfl), by repeat (first | (with_reducible first | exact HB.out | apply bA | apply bN | apply bD) | exact HB.out)⟩
          ·
           rw [if_neg c11] at H
           have c11b0 : (a0 == 240) = false := bQ c11
           have c11b1 : (a0 != 240) = true := bne_iff_ne.mpr c11
           by_cases c12 : a0 = 241
           ·
            rw [if_pos c12] at H
            have c12b0 : (a0 == 241) = true := beq_iff_eq.mpr c12
            have c12b1 : (a0 != 241) = false := bR c12
            clear c12
            obtain rfl := Option.some.inj H
            go_enter Try.func25, Try.ntmps25
            go_wp2
            go_ret
            exact ⟨by first | rfl | (simp [errW_none, errW_some] <;> rfl) | (simp [*, errW_none, errW_some] <;> rfl), by repeat (first | (with_reducible first | exact HB.out | apply bA | apply bN | apply bD) | exact HB.out)⟩
           ·
            rw [if_neg c12] at H
            have c12b0 : (a0 == 241) = false := bQ c12
            have c12b1 : (a0 != 241) = true := bne_iff_ne.mpr c12
            have HC13 := mK H
            clear H
            go_enter Try.func25, Try.ntmps25
            go_upto_if 26 with (fail)
            go_cut [26] (fun v26 wc => ∃ (kq : Nat) (x26_12 : Bool), v26 = .bool x26_12 ∧ Aside0 (report_more.j0 kq a0 a0 x26_12 = some r) ∧ Aside0 (kq ≤ k) ∧ Aside0 (Below w.heap.size w wc))
            case first =>
             have H := HC13.out
             clear HC13
             by_cases c14 : a0 = 242
             ·
              rw [if_pos c14] at H
              have c14b0 : (a0 == 242) = true := beq_iff_eq.mpr c14
              have c14b1 : (a0 != 242) = false := bR c14
              clear c14
              (first | rw [c14b0] | (simp only [i64_w, i32_w]; rw [c14b0]) | skip)
              have H' := mK H
              clear H
              go_wp2
              go_meet
              case rel => exact ⟨_, ((a0 == 242)), (by first | rfl | (simp; done) | (simp [*]; done)), H', ⟨by first | omega | exact Nat.le_refl _⟩, ⟨by repeat (first | (with_reducible first | exact HB.out | apply bA | apply bN | apply bD) | exact HB.out)⟩⟩
             ·
              rw [if_neg c14] at H
              have c14b0 : (a0 == 242) = false := bQ c14
              have c14b1 : (a0 != 242) = true := bne_iff_ne.mpr c14
              (first | rw [c14b0] | (simp only [i64_w, i32_w]; rw [c14b0]) | skip)
              have H' := mK H
              clear H
              go_wp2
              go_meet
              case rel => exact ⟨_, ((a0 == 52)), (by first | rfl | (simp; done) | (simp [*]; done)), H', ⟨by first | omega | exact Nat.le_refl _⟩, ⟨by repeat (first | (with_reducible first | exact HB.out | apply bA | apply bN | apply bD) | exact HB.out)⟩⟩
            case rest =>
             clear HC13
             (try clear c2); (try clear c2b0); (try clear c2b1); (try clear c3); (try clear c3b0); (try clear c3b1); (try clear c4); (try clear c4b0); (try clear c4b1); (try clear c5); (try clear c5b0); (try clear c5b1); (try clear c6); (try clear c6b0); (try clear c6b1); (try clear c7); (try clear c7b0); (try clear c7b1); (try clear c8); (try clear c8b0); (try clear c8b1); (try clear c9); (try clear c9b0); (try clear c9b1); (try clear c10); (try clear c10b0); (try clear c10b1); (try clear c11); (try clear c11b0); (try clear c11b1); (try clear c12); (try clear c12b0); (try clear c12b1)
             obtain ⟨kq, x26_12, rfl, HA, HJ12, HB⟩ := hcut
             cases kq with
             | zero => exact absurd HA.out (by simp [report_more.j0])
             | succ kj12 =>
              have H := HA.out
              clear HA
              simp only [report_more.j0] at H
              by_cases c15 : x26_12 = true
              ·
               subst c15
               have H1 : (some (⟨#[116, 111, 111, 32, 109, 117, 99, 104, 32, 99, 111, 100, 101]⟩ : ByteArray)) = some r := by rw [if_pos rfl] at H; exact H
               clear H
               have H := H1
               clear H1
               obtain rfl := Option.some.inj H
               go_wp2
               go_ret
               exact ⟨by first | rfl | (simp [errW_none, errW_some] <;> rfl) | (simp [*, errW_none, errW_some] <;> rfl), by repeat (first | (with_reducible first | exact HB.out | apply bA | apply bN | apply bD) | exact HB.out)⟩
              ·
               replace c15 := Bool.eq_false_iff.mpr c15
               subst c15
               have H1 : (if a0 = 243 then (some (⟨#[116, 111, 111, 32, 109, 97, 110, 121, 32, 109, 111, 100, 117, 108, 101, 115]⟩ : ByteArray)) else (if a0 = 244 then (some (⟨#[116, 111, 111, 32, 109, 97, 110, 121, 32, 118, 97, 114, 105, 97, 98, 108, 101, 115]⟩ : ByteArray)) else (if a0 = 270 then (some (⟨#[116, 111, 111, 32, 103, 114, 101, 97, 116, 32, 102, 111, 114, 32, 116, 104, 101, 32, 109, 97, 99, 104, 105, 110, 101]⟩ : ByteArray)) else (if a0 = 33 then (some (⟨#[116, 111, 111, 32, 103, 114, 101, 97, 116, 32, 102, 111, 114, 32, 116, 104, 101, 32, 109, 97, 99, 104, 105, 110, 101]⟩ : ByteArray)) else ((word_Text.f a0).bind fun t103 => (if 6 + t103.size ≤ 9223372036854775807 then (some ((⟨#[101, 114, 114, 111, 114, 32]⟩ : ByteArray) ++ t103)) else (none))))))) = some r := by rw [if_neg (show ¬ (false = true) by decide)] at H; exact H
               clear H
               have H := H1
               clear H1
               by_cases c16 : a0 = 243
               ·
                rw [if_pos c16] at H
                have c16b0 : (a0 == 243) = true := beq_iff_eq.mpr c16
                have c16b1 : (a0 != 243) = false := bR c16
                clear c16
                obtain rfl := Option.some.inj H
                go_wp2
                go_ret
                exact ⟨by first | rfl | (simp [errW_none, errW_some] <;> rfl) | (simp [*, errW_none, errW_some] <;> rfl), by repeat (first | (with_reducible first | exact HB.out | apply bA | apply bN | apply bD) | exact HB.out)⟩
               ·
                rw [if_neg c16] at H
                have c16b0 : (a0 == 243) = false := bQ c16
                have c16b1 : (a0 != 243) = true := bne_iff_ne.mpr c16
                by_cases c17 : a0 = 244
                ·
                 rw [if_pos c17] at H
                 have c17b0 : (a0 == 244) = true := beq_iff_eq.mpr c17
                 have c17b1 : (a0 != 244) = false := bR c17
                 clear c17
                 obtain rfl := Option.some.inj H
                 go_wp2
                 go_ret
                 exact ⟨by first | rfl | (simp [errW_none, errW_some] <;> rfl) | (simp [*, errW_none, errW_some] <;> rfl), by repeat (first | (with_reducible first | exact HB.out | apply bA | apply bN | apply bD) | exact HB.out)⟩
                ·
                 rw [if_neg c17] at H
                 have c17b0 : (a0 == 244) = false := bQ c17
                 have c17b1 : (a0 != 244) = true := bne_iff_ne.mpr c17
                 by_cases c18 : a0 = 270
                 ·
                  rw [if_pos c18] at H
                  have c18b0 : (a0 == 270) = true := beq_iff_eq.mpr c18
                  have c18b1 : (a0 != 270) = false := bR c18
                  clear c18
                  obtain rfl := Option.some.inj H
                  go_wp2
                  go_ret
                  exact ⟨by first | rfl | (simp [errW_none, errW_some] <;> rfl) | (simp [*, errW_none, errW_some] <;> rfl), by repeat (first | (with_reducible first | exact HB.out | apply bA | apply bN | apply bD) | exact HB.out)⟩
                 ·
                  rw [if_neg c18] at H
                  have c18b0 : (a0 == 270) = false := bQ c18
                  have c18b1 : (a0 != 270) = true := bne_iff_ne.mpr c18
                  by_cases c19 : a0 = 33
                  ·
                   rw [if_pos c19] at H
                   have c19b0 : (a0 == 33) = true := beq_iff_eq.mpr c19
                   have c19b1 : (a0 != 33) = false := bR c19
                   clear c19
                   obtain rfl := Option.some.inj H
                   go_wp2
                   go_ret
                   exact ⟨by first | rfl | (simp [errW_none, errW_some] <;> rfl) | (simp [*, errW_none, errW_some] <;> rfl), by repeat (first | (with_reducible first | exact HB.out | apply bA | apply bN | apply bD) | exact HB.out)⟩
                  ·
                   rw [if_neg c19] at H
                   have c19b0 : (a0 == 33) = false := bQ c19
                   have c19b1 : (a0 != 33) = true := bne_iff_ne.mpr c19
                   replace H := oB H
                   obtain ⟨t103, A200, H⟩ := H
                   replace H : (if 6 + t103.size ≤ 9223372036854775807 then (some ((⟨#[101, 114, 114, 111, 114, 32]⟩ : ByteArray) ++ t103)) else (none)) = some r := H
                   have A20 := mK A200
                   clear A200
                   by_cases c21 : 6 + t103.size ≤ 9223372036854775807
                   ·
                    rw [if_pos c21] at H
                    have c21b0 := eq_true c21
                    have c21b1 : decide (6 + t103.size ≤ 9223372036854775807) = true := decide_eq_true c21
                    try have c21b2 : (9223372036854775807 < 6 + t103.size) = False := eq_false (Nat.not_lt.2 c21)
                    obtain rfl := Option.some.inj H
                    go_wp2_with (first | ((with_reducible refine gate_callee (f := 18) rfl ?_); refine goesL_ (some 37) rfl rfl Try.func18 (by kernel_rfl) rfl #[.int .i64 a0] rfl (by (try simp only [List.map_toArray, List.map_cons, List.map_nil]); first | done | rfl) ?_; (with_reducible refine (word_Text.calls a0 t103 _ A20.out).mono ?_); rintro e w22 ⟨rfl, hb⟩; refine ⟨_, rfl, ?_⟩; have n0_ := mK (bP (by repeat (first | (with_reducible first | exact HB.out | apply bA | apply bN | apply bD) | exact HB.out)) hb); clear HB; have HB := n0_; clear n0_; (try clear hb)))
                    go_ret
                    exact ⟨by first | rfl | (simp [errW_none, errW_some] <;> rfl) | (simp [*, errW_none, errW_some] <;> rfl), by repeat (first | (with_reducible first | exact HB.out | apply bA | apply bN | apply bD) | exact HB.out)⟩
                   ·
                    rw [if_neg c21] at H
                    exact absurd H (by simp)


/-! ### report_Message: function 9 -/
def report_Message.f (k : Nat) (a0 : Int) : Option (ByteArray) := if a0 = 0 then (some (⟨#[110, 111, 116, 104, 105, 110, 103, 32, 105, 115, 32, 119, 114, 111, 110, 103]⟩ : ByteArray)) else (if a0 = 10 then (some (⟨#[100, 105, 118, 105, 100, 101, 100, 32, 98, 121, 32, 48]⟩ : ByteArray)) else (if a0 = 80 then (some (⟨#[110, 111, 32, 115, 117, 99, 104, 32, 110, 117, 109, 98, 101, 114]⟩ : ByteArray)) else (if a0 = 81 then (some (⟨#[97, 32, 114, 101, 109, 97, 114, 107, 32, 104, 97, 115, 32, 110, 111, 32, 101, 110, 100]⟩ : ByteArray)) else (if a0 = 82 then (some (⟨#[97, 32, 116, 101, 120, 116, 32, 104, 97, 115, 32, 110, 111, 32, 101, 110, 100]⟩ : ByteArray)) else (if a0 = 83 then (some (⟨#[110, 111, 32, 115, 117, 99, 104, 32, 115, 105, 103, 110]⟩ : ByteArray)) else (if a0 = 140 then (some (⟨#[97, 32, 110, 97, 109, 101, 32, 105, 115, 32, 116, 111, 111, 32, 108, 111, 110, 103]⟩ : ByteArray)) else (if a0 = 200 then (some (⟨#[115, 111, 109, 101, 116, 104, 105, 110, 103, 32, 101, 108, 115, 101, 32, 109, 117, 115, 116, 32, 115, 116, 97, 110, 100, 32, 104, 101, 114, 101]⟩ : ByteArray)) else (if a0 = 91 then (some (⟨#[116, 104, 105, 115, 32, 105, 115, 32, 111, 102, 32, 97, 110, 111, 116, 104, 101, 114, 32, 116, 121, 112, 101]⟩ : ByteArray)) else (if a0 = 111 then (some (⟨#[116, 104, 105, 115, 32, 105, 115, 32, 97, 110, 111, 116, 104, 101, 114, 32, 107, 105, 110, 100, 32, 111, 102, 32, 116, 104, 105, 110, 103]⟩ : ByteArray)) else (if a0 = 110 then (some (⟨#[110, 111, 116, 104, 105, 110, 103, 32, 104, 97, 115, 32, 116, 104, 105, 115, 32, 110, 97, 109, 101]⟩ : ByteArray)) else ((report_more.f k a0).bind fun t104 => (some t104))))))))))))
theorem report_Message.mono : ∀ a0 k, LeO (report_Message.f k a0) (report_Message.f (k + 1) a0) := by
 intro a0 k
 unfold report_Message.f
 repeat' first
  | (with_reducible exact report_more.mono _ _)
  | (with_reducible exact LeO.refl _)
  | (with_reducible exact LeO.none _)
  | (with_reducible refine LeO.ite ?_ ?_)
  | (with_reducible refine LeO.bind ?_ (fun _ => ?_))
  | exact LeO.none _
  | refine LeO.ite ?_ ?_
  | refine LeO.bind ?_ (fun _ => ?_)
set_option maxHeartbeats 8000000 in
set_option maxRecDepth 100000 in
theorem report_Message.calls (k : Nat) (a0 : Int) (r : ByteArray) (w : World) (h : report_Message.f k a0 = some r) :
 Calls Try.prog 9 #[.int .i64 a0] w fun e w' => e = .returned (.string r) ∧ Below w.heap.size w w' := by
 have HB := mK (Below.refl w.heap.size w)
 have H : (if a0 = 0 then (some (⟨#[110, 111, 116, 104, 105, 110, 103, 32, 105, 115, 32, 119, 114, 111, 110, 103]⟩ : ByteArray)) else (if a0 = 10 then (some (⟨#[100, 105, 118, 105, 100, 101, 100, 32, 98, 121, 32, 48]⟩ : ByteArray)) else (if a0 = 80 then (some (⟨#[110, 111, 32, 115, 117, 99, 104, 32, 110, 117, 109, 98, 101, 114]⟩ : ByteArray)) else (if a0 = 81 then (some (⟨#[97, 32, 114, 101, 109, 97, 114, 107, 32, 104, 97, 115, 32, 110, 111, 32, 101, 110, 100]⟩ : ByteArray)) else (if a0 = 82 then (some (⟨#[97, 32, 116, 101, 120, 116, 32, 104, 97, 115, 32, 110, 111, 32, 101, 110, 100]⟩ : ByteArray)) else (if a0 = 83 then (some (⟨#[110, 111, 32, 115, 117, 99, 104, 32, 115, 105, 103, 110]⟩ : ByteArray)) else (if a0 = 140 then (some (⟨#[97, 32, 110, 97, 109, 101, 32, 105, 115, 32, 116, 111, 111, 32, 108, 111, 110, 103]⟩ : ByteArray)) else (if a0 = 200 then (some (⟨#[115, 111, 109, 101, 116, 104, 105, 110, 103, 32, 101, 108, 115, 101, 32, 109, 117, 115, 116, 32, 115, 116, 97, 110, 100, 32, 104, 101, 114, 101]⟩ : ByteArray)) else (if a0 = 91 then (some (⟨#[116, 104, 105, 115, 32, 105, 115, 32, 111, 102, 32, 97, 110, 111, 116, 104, 101, 114, 32, 116, 121, 112, 101]⟩ : ByteArray)) else (if a0 = 111 then (some (⟨#[116, 104, 105, 115, 32, 105, 115, 32, 97, 110, 111, 116, 104, 101, 114, 32, 107, 105, 110, 100, 32, 111, 102, 32, 116, 104, 105, 110, 103]⟩ : ByteArray)) else (if a0 = 110 then (some (⟨#[110, 111, 116, 104, 105, 110, 103, 32, 104, 97, 115, 32, 116, 104, 105, 115, 32, 110, 97, 109, 101]⟩ : ByteArray)) else ((report_more.f k a0).bind fun t104 => (some t104))))))))))))) = some r := h
 clear h
 by_cases c2 : a0 = 0
 ·
  rw [if_pos c2] at H
  have c2b0 : (a0 == 0) = true := beq_iff_eq.mpr c2
  have c2b1 : (a0 != 0) = false := bR c2
  clear c2
  obtain rfl := Option.some.inj H
  go_enter Try.func9, Try.ntmps9
  go_wp2
  go_ret
  exact ⟨by first | rfl | (simp [errW_none, errW_some] <;> rfl) | (simp [*, errW_none, errW_some] <;> rfl), by repeat (first | (with_reducible first | exact HB.out | apply bA | apply bN | apply bD) | exact HB.out)⟩
 ·
  rw [if_neg c2] at H
  have c2b0 : (a0 == 0) = false := bQ c2
  have c2b1 : (a0 != 0) = true := bne_iff_ne.mpr c2
  by_cases c3 : a0 = 10
  ·
   rw [if_pos c3] at H
   have c3b0 : (a0 == 10) = true := beq_iff_eq.mpr c3
   have c3b1 : (a0 != 10) = false := bR c3
   clear c3
   obtain rfl := Option.some.inj H
   go_enter Try.func9, Try.ntmps9
   go_wp2
   go_ret
   exact ⟨by first | rfl | (simp [errW_none, errW_some] <;> rfl) | (simp [*, errW_none, errW_some] <;> rfl), by repeat (first | (with_reducible first | exact HB.out | apply bA | apply bN | apply bD) | exact HB.out)⟩
  ·
   rw [if_neg c3] at H
   have c3b0 : (a0 == 10) = false := bQ c3
   have c3b1 : (a0 != 10) = true := bne_iff_ne.mpr c3
   by_cases c4 : a0 = 80
   ·
    rw [if_pos c4] at H
    have c4b0 : (a0 == 80) = true := beq_iff_eq.mpr c4
    have c4b1 : (a0 != 80) = false := bR c4
    clear c4
    obtain rfl := Option.some.inj H
    go_enter Try.func9, Try.ntmps9
    go_wp2
    go_ret
    exact ⟨by first | rfl | (simp [errW_none, errW_some] <;> rfl) | (simp [*, errW_none, errW_some] <;> rfl), by repeat (first | (with_reducible first | exact HB.out | apply bA | apply bN | apply bD) | exact HB.out)⟩
   ·
    rw [if_neg c4] at H
    have c4b0 : (a0 == 80) = false := bQ c4
    have c4b1 : (a0 != 80) = true := bne_iff_ne.mpr c4
    by_cases c5 : a0 = 81
    ·
     rw [if_pos c5] at H
     have c5b0 : (a0 == 81) = true := beq_iff_eq.mpr c5
     have c5b1 : (a0 != 81) = false := bR c5
     clear c5
     obtain rfl := Option.some.inj H
     go_enter Try.func9, Try.ntmps9
     go_wp2
     go_ret
     exact ⟨by first | rfl | (simp [errW_none, errW_some] <;> rfl) | (simp [*, errW_none, errW_some] <;> rfl), by repeat (first | (with_reducible first | exact HB.out | apply bA | apply bN | apply bD) | exact HB.out)⟩
    ·
     rw [if_neg c5] at H
     have c5b0 : (a0 == 81) = false := bQ c5
     have c5b1 : (a0 != 81) = true := bne_iff_ne.mpr c5
     by_cases c6 : a0 = 82
     ·
      rw [if_pos c6] at H
      have c6b0 : (a0 == 82) = true := beq_iff_eq.mpr c6
      have c6b1 : (a0 != 82) = false := bR c6
      clear c6
      obtain rfl := Option.some.inj H
      go_enter Try.func9, Try.ntmps9
      go_wp2
      go_ret
      exact ⟨by first | rfl | (simp [errW_none, errW_some] <;> rfl) | (simp [*, errW_none, errW_some] <;> rfl), by repeat (first | (with_reducible first | exact HB.out | apply bA | apply bN | apply bD) | exact HB.out)⟩
     ·
      rw [if_neg c6] at H
      have c6b0 : (a0 == 82) = false := bQ c6
      have c6b1 : (a0 != 82) = true := bne_iff_ne.mpr c6
      by_cases c7 : a0 = 83
      ·
       rw [if_pos c7] at H
       have c7b0 : (a0 == 83) = true := beq_iff_eq.mpr c7
       have c7b1 : (a0 != 83) = false := bR c7
       clear c7
       obtain rfl := Option.some.inj H
       go_enter Try.func9, Try.ntmps9
       go_wp2
       go_ret
       exact ⟨by first | rfl | (simp [errW_none, errW_some] <;> rfl) | (simp [*, errW_none, errW_some] <;> rfl), by repeat (first | (with_reducible first | exact HB.out | apply bA | apply bN | apply bD) | exact HB.out)⟩
      ·
       rw [if_neg c7] at H
       have c7b0 : (a0 == 83) = false := bQ c7
       have c7b1 : (a0 != 83) = true := bne_iff_ne.mpr c7
       by_cases c8 : a0 = 140
       ·
        rw [if_pos c8] at H
        have c8b0 : (a0 == 140) = true := beq_iff_eq.mpr c8
        have c8b1 : (a0 != 140) = false := bR c8
        clear c8
        obtain rfl := Option.some.inj H
        go_enter Try.func9, Try.ntmps9
        go_wp2
        go_ret
        exact ⟨by first | rfl | (simp [errW_none, errW_some] <;> rfl) | (simp [*, errW_none, errW_some] <;> rfl), by repeat (first | (with_reducible first | exact HB.out | apply bA | apply bN | apply bD) | exact HB.out)⟩
       ·
        rw [if_neg c8] at H
        have c8b0 : (a0 == 140) = false := bQ c8
        have c8b1 : (a0 != 140) = true := bne_iff_ne.mpr c8
        by_cases c9 : a0 = 200
        ·
         rw [if_pos c9] at H
         have c9b0 : (a0 == 200) = true := beq_iff_eq.mpr c9
         have c9b1 : (a0 != 200) = false := bR c9
         clear c9
         obtain rfl := Option.some.inj H
         go_enter Try.func9, Try.ntmps9
         go_wp2
         go_ret
         exact ⟨by first | rfl | (simp [errW_none, errW_some] <;> rfl) | (simp [*, errW_none, errW_some] <;> rfl), by repeat (first | (with_reducible first | exact HB.out | apply bA | apply bN | apply bD) | exact HB.out)⟩
        ·
         rw [if_neg c9] at H
         have c9b0 : (a0 == 200) = false := bQ c9
         have c9b1 : (a0 != 200) = true := bne_iff_ne.mpr c9
         by_cases c10 : a0 = 91
         ·
          rw [if_pos c10] at H
          have c10b0 : (a0 == 91) = true := beq_iff_eq.mpr c10
          have c10b1 : (a0 != 91) = false := bR c10
          clear c10
          obtain rfl := Option.some.inj H
          go_enter Try.func9, Try.ntmps9
          go_wp2
          go_ret
          exact ⟨by first | rfl | (simp [errW_none, errW_some] <;> rfl) | (simp [*, errW_none, errW_some] <;> rfl), by repeat (first | (with_reducible first | exact HB.out | apply bA | apply bN | apply bD) | exact HB.out)⟩
         ·
          rw [if_neg c10] at H
          have c10b0 : (a0 == 91) = false := bQ c10
          have c10b1 : (a0 != 91) = true := bne_iff_ne.mpr c10
          by_cases c11 : a0 = 111
          ·
           rw [if_pos c11] at H
           have c11b0 : (a0 == 111) = true := beq_iff_eq.mpr c11
           have c11b1 : (a0 != 111) = false := bR c11
           clear c11
           obtain rfl := Option.some.inj H
           go_enter Try.func9, Try.ntmps9
           go_wp2
           go_ret
           exact ⟨by first | rfl | (simp [errW_none, errW_some] <;> rfl) | (simp [*, errW_none, errW_some] <;> rfl), by repeat (first | (with_reducible first | exact HB.out | apply bA | apply bN | apply bD) | exact HB.out)⟩
          ·
           rw [if_neg c11] at H
           have c11b0 : (a0 == 111) = false := bQ c11
           have c11b1 : (a0 != 111) = true := bne_iff_ne.mpr c11
           by_cases c12 : a0 = 110
           ·
            rw [if_pos c12] at H
            have c12b0 : (a0 == 110) = true := beq_iff_eq.mpr c12
            have c12b1 : (a0 != 110) = false := bR c12
            clear c12
            obtain rfl := Option.some.inj H
            go_enter Try.func9, Try.ntmps9
            go_wp2
            go_ret
            exact ⟨by first | rfl | (simp [errW_none, errW_some] <;> rfl) | (simp [*, errW_none, errW_some] <;> rfl), by repeat (first | (with_reducible first | exact HB.out | apply bA | apply bN | apply bD) | exact HB.out)⟩
           ·
            rw [if_neg c12] at H
            have c12b0 : (a0 == 110) = false := bQ c12
            have c12b1 : (a0 != 110) = true := bne_iff_ne.mpr c12
            replace H := oB H
            obtain ⟨t104, A130, H⟩ := H
            replace H : (some t104) = some r := H
            have A13 := mK A130
            clear A130
            obtain rfl := Option.some.inj H
            go_enter Try.func9, Try.ntmps9
            go_wp2_with (first | ((with_reducible refine gate_callee (f := 25) rfl ?_); refine goesL_ (some 27) rfl rfl Try.func25 (by kernel_rfl) rfl #[.int .i64 a0] rfl (by (try simp only [List.map_toArray, List.map_cons, List.map_nil]); first | done | rfl) ?_; (with_reducible refine (report_more.calls k a0 t104 _ A13.out).mono ?_); rintro e w14 ⟨rfl, hb⟩; refine ⟨_, rfl, ?_⟩; have n0_ := mK (bP (by repeat (first | (with_reducible first | exact HB.out | apply bA | apply bN | apply bD) | exact HB.out)) hb); clear HB; have HB := n0_; clear n0_; (try clear hb)))
            go_ret
            exact ⟨by first | rfl | (simp [errW_none, errW_some] <;> rfl) | (simp [*, errW_none, errW_some] <;> rfl), by repeat (first | (with_reducible first | exact HB.out | apply bA | apply bN | apply bD) | exact HB.out)⟩


/-! ### place_New: function 19 -/
/-- Where the lines begin, as far as the first so many bytes tell. -/
def place_sts (s : ByteArray) : Nat → List Int
 | 0 => [0]
 | n + 1 => if bt s (n : Int) = 10 then place_sts s n ++ [(n : Int) + 1] else place_sts s n
theorem place_sts_len (s : ByteArray) : ∀ n, 1 ≤ (place_sts s n).length ∧ (place_sts s n).length ≤ n + 1
 | 0 => ⟨Nat.le_refl _, Nat.le_refl _⟩
 | n + 1 => by
  have ih := place_sts_len s n
  unfold place_sts
  by_cases h : bt s (n : Int) = 10
  ·
   rw [if_pos h]; simp; omega
  ·
   rw [if_neg h]; omega
theorem place_decode (s : ByteArray) (pos : Nat) (h : pos < s.size) : 1 ≤ (Utf8.decode s pos).2 ∧ (pos + (Utf8.decode s pos).2 ≤ s.size ∧ ∀ j : Nat, 1 ≤ j → j < (Utf8.decode s pos).2 → bt s ((pos + j : Nat) : Int) ≠ 10) ∧ (((Utf8.decode s pos).1 : Int) = 10 ↔ bt s (pos : Int) = 10) := by
 have hb : bt s (pos : Int) = ((s[pos]'h).toNat : Int) := by unfold bt; simp [h]
 by_cases ha : (s[pos]'h).toNat < 128
 ·
  rw [decode_ascii s pos h ha, hb]
  exact ⟨Nat.le_refl _, ⟨by omega, fun j h1 h2 => by omega⟩, Iff.rfl⟩
 ·
  have hd := decode_high s pos h (by omega)
  refine ⟨hd.2, ?_, ⟨fun e => by omega, fun e => by omega⟩⟩
  have hcont : ∀ j : Nat, (decide (pos + j < s.size) && (s.get! (pos + j)).toNat / 64 == 2) = true → pos + j < s.size ∧ bt s ((pos + j : Nat) : Int) ≠ 10 := by
   intro j hj
   rw [Bool.and_eq_true, decide_eq_true_eq, beq_iff_eq] at hj
   refine ⟨hj.1, ?_⟩
   have e : s.get! (pos + j) = s[pos + j]'hj.1 := get_at s (pos + j) hj.1
   have e2 : bt s ((pos + j : Nat) : Int) = ((s[pos + j]'hj.1).toNat : Int) := by unfold bt; rw [Int.toNat_natCast]; simp [hj.1]
   rw [e2]
   rw [e] at hj
   omega
  have one : pos + 1 ≤ s.size ∧ ∀ j : Nat, 1 ≤ j → j < 1 → bt s ((pos + j : Nat) : Int) ≠ 10 := ⟨by omega, fun j h1 h2 => by omega⟩
  have more : ∀ n : Nat, 1 ≤ n → (∀ j, 1 ≤ j → j < n + 1 → (decide (pos + j < s.size) && (s.get! (pos + j)).toNat / 64 == 2) = true) → pos + (n + 1) ≤ s.size ∧ ∀ j : Nat, 1 ≤ j → j < n + 1 → bt s ((pos + j : Nat) : Int) ≠ 10 :=
   fun n hn hx => ⟨by have := (hcont n (hx n hn (by omega))).1; omega, fun j h1 h2 => (hcont j (hx j h1 h2)).2⟩
  unfold Utf8.decode
  simp only
  split
  ·
   exact one
  split
  ·
   rename_i h2
   split
   ·
    refine more 1 (by omega) (fun j h3 h4 => ?_)
    obtain rfl : j = 1 := by omega
    simp only [Bool.and_eq_true] at h2 ⊢
    exact h2.2
   ·
    exact one
  split
  ·
   rename_i h2
   split
   ·
    refine more 2 (by omega) (fun j h3 h4 => ?_)
    simp only [Bool.and_eq_true] at h2 ⊢
    obtain rfl | rfl : j = 1 ∨ j = 2 := by omega
    ·
     exact h2.1.2
    ·
     exact h2.2
   ·
    exact one
  split
  ·
   rename_i h2
   split
   ·
    refine more 3 (by omega) (fun j h3 h4 => ?_)
    simp only [Bool.and_eq_true] at h2 ⊢
    obtain rfl | rfl | rfl : j = 1 ∨ j = 2 ∨ j = 3 := by omega
    ·
     exact h2.1.1.2
    ·
     exact h2.1.2
    ·
     exact h2.2
   ·
    exact one
  ·
   exact one
theorem place_sts_over (s : ByteArray) (pos d : Nat) (h : ∀ j : Nat, 1 ≤ j → j < d → bt s ((pos + j : Nat) : Int) ≠ 10) (hd : 1 ≤ d) : place_sts s (pos + d) = place_sts s (pos + 1) := by
 induction d with
 | zero => omega
 | succ d ih =>
  by_cases h0 : d = 0
  ·
   subst h0; rfl
  ·
   rw [← ih (fun j h1 h2 => h j h1 (by omega)) (by omega)]
   show place_sts s (pos + d + 1) = _
   rw [place_sts, if_neg (h d (by omega) (by omega))]
/-- An index at g of a text whose lines begin there. -/
def place_Is (w : World) (g : Nat) (s : ByteArray) (L : List Int) : Prop :=
 ∃ A c, w.heap[g]? = some (.cells #[.string s, .slice A L.length c] 94 (0, 0)) ∧ L.length ≤ c ∧ Kd.C (Kd.int .i64) w A L.length L
theorem place_Is.below {w w' : World} {g : Nat} {s : ByteArray} {L : List Int} (h : place_Is w g s L) (hb : Below w.heap.size w w') : place_Is w' g s L := by
 obtain ⟨A, c, h1, h2, h3⟩ := h
 exact ⟨A, c, (hb.block g (blk_lt h1)).trans h1, h2, Kd.C_below h3 hb⟩
theorem place_info : (Try.prog.info? 3).map (fun i => (i.zero, i.size, i.bytes)) = some (some (.int .i64 0), 1, 8) := by kernel_rfl
theorem place_decode10 (s : ByteArray) (pos : Nat) (h : pos < s.size) (hb : bt s (pos : Int) = 10) : Utf8.decode s pos = (10, 1) := by
 have e : bt s (pos : Int) = ((s[pos]'h).toNat : Int) := by unfold bt; simp [h]
 rw [e] at hb
 rw [decode_ascii s pos h (by omega)]
 congr 1
 omega
/-- What holds at the head of New's loop, before the byte pos. -/
def place_New.At (w wr : World) (g : Nat) (s : ByteArray) (pos : Nat) : Prop :=
 ∃ A c, wr.heap[g]? = some (.cells #[.string s, .slice A (place_sts s pos).length c] 94 (0, 0)) ∧ Kd.R (Kd.int .i64) 3 wr w.heap.size (fun k => k ≠ g + 1) (.slice A (place_sts s pos).length c) (place_sts s pos) ∧ Below w.heap.size w wr ∧ wr.heap[g + 1]? = some (.stringIter s pos) ∧ pos ≤ s.size ∧ w.heap.size ≤ g
theorem place_New.At.moved {w wr : World} {g : Nat} {s : ByteArray} {pos : Nat} (h : place_New.At w wr g s pos) (hp : pos < s.size) (n : Nat) : ∃ A c, (wr.iterAt (g + 1) s n).heap[g]? = some (.cells #[.string s, .slice A (place_sts s pos).length c] 94 (0, 0)) ∧ Kd.R (Kd.int .i64) 3 (wr.iterAt (g + 1) s n) w.heap.size (fun k => k ≠ g + 1) (.slice A (place_sts s pos).length c) (place_sts s pos) ∧ Below w.heap.size w (wr.iterAt (g + 1) s n) ∧ (wr.iterAt (g + 1) s n).heap[g + 1]? = some (.stringIter s n) ∧ w.heap.size ≤ g := by
 obtain ⟨A, c, h1, h2, h3, h4, h5, h6⟩ := h
 exact ⟨A, c, (Lib.iterAt_other wr (g + 1) g s n (by omega)).trans h1, Kd.R_step h2 (fun k hk _ => Lib.iterAt_other wr (g + 1) k s n hk), Lib.below_iterAt h3 (by omega) s n, Lib.iterAt_heap wr (g + 1) s pos n h4, h6⟩
theorem place_New.At.put {w W w1 : World} {g : Nat} {s : ByteArray} {pos : Nat} {v v1 u : Value} {L : List Int} (hg : W.heap[g]? = some (.cells #[.string s, u] 94 (0, 0))) (hit : W.heap[g + 1]? = some (.stringIter s (pos + 1))) (hp : pos < s.size) (hgb : w.heap.size ≤ g)
 (hL : L = place_sts s (pos + 1)) (ho : Kd.R (Kd.int .i64) 3 w1 w.heap.size (fun k => k ≠ g + 1) v1 L) (hb : Below w.heap.size w w1) (hgr : W.grownBy w1 v.ownBlock) (hv : v.ownBlock ≠ some g) (hv2 : v.ownBlock ≠ some (g + 1)) : place_New.At w (w1.setCell ⟨g, 1, none⟩ v1) g s (pos + 1) := by
 subst hL
 obtain ⟨A, c, rfl⟩ := Kd.R_slice ho
 have h1 := blk_grown hg hgr (fun e => hv e.symm)
 refine ⟨A, c, kP h1 1 _ rfl, Kd.R_set ho h1 (by decide) 1 _, bS hb hgb, ?_, by omega, hgb⟩
 rw [Below.heap_setCell w1 ⟨g, 1, none⟩ _ (g + 1) (by simp)]
 exact blk_grown hit hgr (fun e => hv2 e.symm)
set_option maxHeartbeats 4000000 in
set_option maxRecDepth 100000 in
theorem place_New.whole (s : ByteArray) (w : World) (hs : s.size ≤ 1000000) :
 Calls Try.prog 19 #[.string s] w fun e w' => ∃ g, e = .returned (.pointer (some ⟨g, 0, none⟩)) ∧ place_Is w' g s (place_sts s s.size) ∧ Below w.heap.size w w' ∧ w.heap.size ≤ g := by
 go_enter Try.func19, Try.ntmps19
 go_wp2_with ((with_reducible refine gate_dst (N := 7) rfl ?_); refine Kd.R_lit (Kd.int .i64) (w0 := w) w.heap.size 3 ?hg (N := 7) ?hd (xs := ([0] : List Int)) (inner := [.int .i64 0]) (ok := fun _ => True) (okp := fun _ => True) ?hr ?hp (fun _ hk => hk) trivial (Below.refl _ _) (Nat.le_refl _) (by simp) ?_; (case hd => rfl); (case hg => rfl); (case hr => first | (go_simp; done) | (go_simp; rfl)); (case hp => exact (Reps.one (show Kd.M (Kd.int .i64) _ _ _ (0 : Int) [.int .i64 0] from rfl) (Reps.none _ _))); intro v7 w1 ho hb hg_ hnew_; clear hg_ hnew_; obtain ⟨A7, c7, rfl⟩ := Kd.R_slice ho; have HO := mK ho; have HB := mK hb; clear ho hb)
 go_loopg [] (s.size + 1) (fun kx wr => ∃ pos : Nat, Aside0 (place_New.At w wr w1.heap.size s pos ∧ s.size + 1 ≤ pos + kx))
 case atStart =>
  refine ⟨0, ⟨⟨A7, c7, ?_, ?_, ?_, ?_, Nat.zero_le _, HB.out.size⟩, by omega⟩⟩
  ·
   exact kA (blk_new w1 _) _
  ·
   exact Kd.R_alloc (Kd.R_alloc (Kd.R_mono (Kd.R_elderB HO.out (w1.heap.size + 1) (by omega)) (fun _ h => h.2)) _) _
  ·
   exact bA (bA HB.out _) _
  ·
   have h := World.iter_heap (w1.alloc (Obj.cells #[Value.string s, Value.slice A7 1 c7] 94)) s 0
   rw [show (w1.alloc (Obj.cells #[Value.string s, Value.slice A7 1 c7] 94)).heap.size = w1.heap.size + 1 by simp] at h
   exact h
 case round =>
  obtain ⟨pos, I⟩ := hrel
  by_cases hp : pos < s.size
  ·
   have hit := I.out.1.choose_spec.choose_spec.2.2.2.1
   have hnx : ∀ ty, (Instr.next (.pointer (some ⟨w1.heap.size + 1, 0, none⟩)) true ty).run Try.prog wr = _ := fun ty => Lib.run_next_any_at wr (w1.heap.size + 1) s pos ty hit hp
   obtain ⟨A, c, hg1, hR1, hB1, hit1, hgb⟩ := I.out.1.moved hp (pos + (Utf8.decode s pos).2)
   have hd := place_decode s pos hp
   generalize hW : wr.iterAt (w1.heap.size + 1) s (pos + (Utf8.decode s pos).2) = W1 at hnx hg1 hR1 hB1 hit1
   clear hit hW
   have hpb : (pos : Int) ≤ 1000000 := by omega
   by_cases hc : bt s (pos : Int) = 10
   ·
    have h10 := place_decode10 s pos hp hc
    have hnx2 : ∀ ty, (Instr.next (.pointer (some ⟨w1.heap.size + 1, 0, none⟩)) true ty).run Try.prog wr = .ok (.tuple #[.bool true, .int .i64 pos, .int .i32 10]) W1 := fun ty => by have h := hnx ty; rw [h10] at h; exact h
    rw [h10] at hit1
    have hcg := kC hg1 1
    have hsl := place_sts_len s pos
    have hnew : place_sts s pos ++ [(pos : Int) + 1] = place_sts s (pos + 1) := by rw [place_sts, if_pos hc]
    have HX := mK (show W1.heap[w1.heap.size]? = some (.cells #[.string s, .slice A (place_sts s pos).length c] 94 (0, 0)) ∧ W1.heap[w1.heap.size + 1]? = some (.stringIter s (pos + 1)) ∧ Kd.R (Kd.int .i64) 3 W1 w.heap.size (fun k => k ≠ w1.heap.size + 1) (.slice A (place_sts s pos).length c) (place_sts s pos) ∧ Below w.heap.size w W1 ∧ place_sts s pos ++ [(pos : Int) + 1] = place_sts s (pos + 1) ∧ (place_sts s pos).length ≤ 1000001 from ⟨hg1, hit1, hR1, hB1, hnew, by omega⟩)
    clear hg1 hit1 hR1 hB1 hnew hnx hd hsl h10 hc
    simp at hcg
    go_wp2_with ((with_reducible refine gate_builtin (b := .append) (xs := #[.tmp 22, .tmp 25]) rfl ?_); at_builtin; refine Kd.R_append (Kd.int .i64) (w0 := w) w.heap.size rfl (.tmp 22) (.tmp 25) 41 3 (.int .i64 0) 8 rfl Try.underlying41 place_info rfl (by decide) (by omega) (.slice A (place_sts s pos).length c) (place_sts s pos) ((pos : Int) + 1) [.int .i64 ((pos : Int) + 1)] (fun k => k ≠ w1.heap.size + 1) (fun _ => False) rfl rfl ?aP (fun _ hk => hk.elim) ?aF ?aO ?aB ?aS ?aL ?_; (case aP => exact rfl); (case aB => exact HX.out.2.2.2.1); (case aF => exact fun k hk => by have := blk_lt HX.out.2.1; omega); (case aO => exact HX.out.2.2.1); (case aS => exact HX.out.2.2.2.1.size); (case aL => have := HX.out.2.2.2.2.2; omega); intro v9 w9 ho hb hgr hat; obtain ⟨A9, c9, rfl⟩ := Kd.R_slice ho; have hg9 := blk_grown HX.out.1 hgr (Kd.R_ne HX.out.2.2.1 HX.out.1 (by decide)); have hc9 := kC hg9 1; have hf9 := kF hg9 1; have P := mK (place_New.At.put HX.out.1 HX.out.2.1 hp hgb HX.out.2.2.2.2.1 ho hb hgr (fun e => Kd.R_ne HX.out.2.2.1 HX.out.1 (by decide) e.symm) (fun e => HX.out.2.2.1.1 _ e rfl)); clear ho hb hgr hat hg9; simp at hc9)
    go_roundg (gk - 1)
    case measure => have := I.out.2; omega
    case rel => exact ⟨pos + 1, ⟨by have h := P.out; simp only [List.length_append, List.length_singleton] at h; exact h, by have := I.out.2; omega⟩⟩
   ·
    have hrb : (((Utf8.decode s pos).1 : Int) == 10) = false := bQ (fun e => hc (hd.2.2.mp e))
    have hov := place_sts_over s pos (Utf8.decode s pos).2 hd.2.1.2 hd.1
    have hst : place_sts s (pos + (Utf8.decode s pos).2) = place_sts s pos := by rw [hov, place_sts, if_neg hc]
    have HX : Aside0 (place_New.At w W1 w1.heap.size s (pos + (Utf8.decode s pos).2)) := ⟨⟨A, c, by rw [hst]; exact hg1, by rw [hst]; exact hR1, hB1, hit1, hd.2.1.1, hgb⟩⟩
    have HD := mK hd
    clear hd hov hst hg1 hit1 hR1 hB1 hc
    generalize Utf8.decode s pos = dd at *
    go_wp2
    go_roundg (gk - 1)
    case measure => have := I.out.2; omega
    case rel => exact ⟨pos + dd.2, ⟨HX.out, by have := I.out.2; have := HD.out.1; omega⟩⟩
  ·
   have hit := I.out.1.choose_spec.choose_spec.2.2.2.1
   have hnx : ∀ ty, (Instr.next (.pointer (some ⟨w1.heap.size + 1, 0, none⟩)) true ty).run Try.prog wr = _ := fun ty => Lib.run_next_end_at wr (w1.heap.size + 1) s pos ty hit hp
   clear hit
   go_wp2
   go_ret
   obtain ⟨⟨A, c, h1, h2, h3, h4, h5, h6⟩, _⟩ := I.out
   obtain rfl : pos = s.size := by omega
   exact ⟨_, rfl, ⟨A, c, h1, (Kd.R_reads' h2).2.1, (Kd.R_reads' h2).2.2⟩, h3, h6⟩
theorem place_New.calls (s : ByteArray) (w : World) (hs : s.size ≤ 1000000) :
 Calls Try.prog 19 #[.string s] w fun e w' => ∃ g, e = .returned (.pointer (some ⟨g, 0, none⟩)) ∧ place_Is w' g s (place_sts s s.size) ∧ Below w.heap.size w w' := by
 refine (place_New.whole s w hs).mono ?_
 rintro e w' ⟨g, h1, h2, h3, _⟩
 exact ⟨g, h1, h2, h3⟩


/-! ### place_Index_end: function 45 -/
/-- What is known of the lines' starts. -/
structure place_Good (s : ByteArray) (L : List Int) : Prop where
 size : s.size ≤ 1000000
 pos : 1 ≤ L.length
 len : L.length ≤ 1000001
 low : ∀ i : Int, 0 ≤ i → i < L.length → 0 ≤ rd L i ∧ rd L i ≤ s.size
 rise : ∀ i : Int, 0 ≤ i → i + 1 < L.length → rd L i < rd L (i + 1)
theorem place_rd_left (L K : List Int) (i : Int) (h0 : 0 ≤ i) (h : i < L.length) : rd (L ++ K) i = rd L i := by
 unfold rd; simp [List.getD_eq_getElem?_getD, List.getElem?_append_left (show i.toNat < L.length by omega)]
theorem place_rd_last (L : List Int) (x : Int) (i : Int) (h : i = L.length) : rd (L ++ [x]) i = x := by
 subst h; unfold rd; rw [Int.toNat_natCast]; simp [List.getD_eq_getElem?_getD]
theorem place_sts_good (s : ByteArray) (hs : s.size ≤ 1000000) (n : Nat) (hn : n ≤ s.size) : (∀ i : Int, 0 ≤ i → i < (place_sts s n).length → 0 ≤ rd (place_sts s n) i ∧ rd (place_sts s n) i ≤ n) ∧ (∀ i : Int, 0 ≤ i → i + 1 < (place_sts s n).length → rd (place_sts s n) i < rd (place_sts s n) (i + 1)) := by
 induction n with
 | zero =>
  refine ⟨fun i h0 h1 => ?_, fun i h0 h1 => ?_⟩
  ·
   have : i = 0 := by simp [place_sts] at h1; omega
   subst this; show 0 ≤ rd [0] 0 ∧ rd [0] 0 ≤ ((0 : Nat) : Int); decide
  ·
   simp [place_sts] at h1; omega
 | succ n ih =>
  obtain ⟨h1, h2⟩ := ih (by omega)
  unfold place_sts
  by_cases h : bt s (n : Int) = 10
  ·
   rw [if_pos h]
   refine ⟨fun i h0 hi => ?_, fun i h0 hi => ?_⟩
   ·
    rw [List.length_append, List.length_singleton] at hi
    by_cases e : i = (place_sts s n).length
    ·
     rw [place_rd_last _ _ _ e]; omega
    ·
     rw [place_rd_left _ _ _ h0 (by omega)]; have := h1 i h0 (by omega); omega
   ·
    rw [List.length_append, List.length_singleton] at hi
    rw [place_rd_left _ _ _ h0 (by omega)]
    by_cases e : i + 1 = (place_sts s n).length
    ·
     rw [place_rd_last _ _ _ e]; have := h1 i h0 (by omega); omega
    ·
     rw [place_rd_left _ _ _ (by omega) (by omega)]; exact h2 i h0 (by omega)
  ·
   rw [if_neg h]
   exact ⟨fun i h0 hi => by have := h1 i h0 hi; omega, h2⟩
theorem place_good (s : ByteArray) (hs : s.size ≤ 1000000) : place_Good s (place_sts s s.size) := by
 have h := place_sts_len s s.size
 have g := place_sts_good s hs s.size (Nat.le_refl _)
 exact ⟨hs, h.1, by omega, g.1, g.2⟩
/-- Where a line ends. -/
def place_endf (s : ByteArray) (L : List Int) (n : Int) : Int := if n + 1 < (L.length : Int) then rd L (n + 1) - 1 else s.size
set_option maxHeartbeats 1000000 in
set_option maxRecDepth 100000 in
theorem place_end.calls (g : Nat) (s : ByteArray) (L : List Int) (n : Int) (w : World) (hI : place_Is w g s L) (hG : place_Good s L) (h0 : 0 ≤ n) (h1 : n ≤ 1000001) :
 Calls Try.prog 45 #[.pointer (some ⟨g, 0, none⟩), .int .i64 n] w fun e w' => e = .returned (.int .i64 (place_endf s L n)) ∧ Below w.heap.size w w' := by
 obtain ⟨A, c, hg, hlc, hC⟩ := hI
 have hc0 := kC hg 0
 have hc1 := kC hg 1
 simp at hc0 hc1
 unfold place_endf
 by_cases h : n + 1 < (L.length : Int)
 ·
  obtain ⟨ad, e, hx⟩ := Kd.at_int hC (n + 1) (by omega) h
  cases e
  rw [if_pos h]
  have hb := hG.low (n + 1) (by omega) h
  have hs := hG.size
  generalize rd L (n + 1) = y at hx hb ⊢
  have hy0 := hb.1
  have hy1 : y ≤ 1000000 := by omega
  have hp : 0 ≤ n + 1 := by omega
  clear hg hC hb hG
  generalize L.length = k at *
  go_enter Try.func45, Try.ntmps45
  go_wp2
  go_ret
  exact ⟨rfl, Below.refl _ _⟩
 ·
  rw [if_neg h]
  have hn : decide (n + 1 < (L.length : Int)) = false := decide_eq_false h
  clear hg hC hG h
  generalize L.length = k at *
  go_enter Try.func45, Try.ntmps45
  go_wp2
  go_ret
  exact ⟨rfl, Below.refl _ _⟩
theorem place_endf_le (s : ByteArray) (L : List Int) (hG : place_Good s L) (n : Int) (h0 : 0 ≤ n) (h1 : n < L.length) : rd L n ≤ place_endf s L n ∧ place_endf s L n ≤ s.size := by
 unfold place_endf
 by_cases h : n + 1 < (L.length : Int)
 ·
  rw [if_pos h]; have := hG.rise n h0 h; have := hG.low (n + 1) (by omega) h; omega
 ·
  rw [if_neg h]; have := hG.low n h0 h1; omega


/-! ### place_Index_At: function 20 -/
/-- The line of a byte, counted from 0 on, by halves. -/
def place_bis (L : List Int) (x : Int) : Nat → Nat → Nat → Nat
 | 0, lo, _ => lo
 | k + 1, lo, hi => if 1 < hi - lo then (if rd L (((lo + hi) / 2 : Nat) : Int) ≤ x then place_bis L x k ((lo + hi) / 2) hi else place_bis L x k lo ((lo + hi) / 2)) else lo
theorem place_bis_more (L : List Int) (x : Int) (k : Nat) : ∀ m lo hi, hi - lo ≤ k → hi - lo ≤ m → place_bis L x m lo hi = place_bis L x k lo hi := by
 induction k with
 | zero =>
  intro m lo hi h1 h2
  cases m with
  | zero => rfl
  | succ m => unfold place_bis; rw [if_neg (by omega)]
 | succ k ih =>
  intro m lo hi h1 h2
  cases m with
  | zero => unfold place_bis; rw [if_neg (by omega)]
  | succ m =>
   unfold place_bis
   by_cases h : 1 < hi - lo
   ·
    rw [if_pos h, if_pos h, ih m _ _ (by omega) (by omega), ih m _ _ (by omega) (by omega)]
   ·
    rw [if_neg h, if_neg h]
theorem place_bis_spec (L : List Int) (x : Int) (k : Nat) : ∀ lo hi, hi - lo ≤ k → lo < hi → hi ≤ L.length → rd L (lo : Int) ≤ x → (hi < L.length → x < rd L (hi : Int)) →
 place_bis L x k lo hi < L.length ∧ lo ≤ place_bis L x k lo hi ∧ rd L (place_bis L x k lo hi : Nat) ≤ x ∧ (place_bis L x k lo hi + 1 < L.length → x < rd L ((place_bis L x k lo hi + 1 : Nat) : Int)) := by
 induction k with
 | zero => intro lo hi h1 h2 h3 h4 h5; omega
 | succ k ih =>
  intro lo hi h1 h2 h3 h4 h5
  unfold place_bis
  by_cases h : 1 < hi - lo
  ·
   rw [if_pos h]
   by_cases hp : rd L (((lo + hi) / 2 : Nat) : Int) ≤ x
   ·
    rw [if_pos hp]
    have := ih ((lo + hi) / 2) hi (by omega) (by omega) h3 hp h5
    exact ⟨this.1, by omega, this.2.2⟩
   ·
    rw [if_neg hp]
    exact ih lo ((lo + hi) / 2) (by omega) (by omega) (by omega) h4 (fun _ => by omega)
  ·
   rw [if_neg h]
   have e : hi = lo + 1 := by omega
   subst e
   exact ⟨by omega, Nat.le_refl _, h4, h5⟩
def place_held (s : ByteArray) (off : Int) : Int := if off < 0 then 0 else if (s.size : Int) < off then s.size else off
def place_line (s : ByteArray) (L : List Int) (off : Int) : Nat := place_bis L (place_held s off) L.length 0 L.length
theorem place_line_spec (s : ByteArray) (L : List Int) (off : Int) (hG : place_Good s L) (h0 : rd L 0 = 0) : place_line s L off < L.length ∧ rd L (place_line s L off : Nat) ≤ place_held s off ∧ (place_line s L off + 1 < L.length → place_held s off < rd L ((place_line s L off + 1 : Nat) : Int)) := by
 have hx : 0 ≤ place_held s off := by unfold place_held; split <;> (try split) <;> omega
 have := place_bis_spec L (place_held s off) L.length 0 L.length (by omega) hG.pos (Nat.le_refl _) (by rw [show ((0 : Nat) : Int) = 0 from rfl, h0]; exact hx) (fun h => by omega)
 exact ⟨this.1, this.2.2.1, this.2.2.2⟩
theorem place_sts_zero (s : ByteArray) : ∀ n, rd (place_sts s n) 0 = 0
 | 0 => rfl
 | n + 1 => by
  unfold place_sts
  have h := (place_sts_len s n).1
  by_cases e : bt s (n : Int) = 10
  ·
   rw [if_pos e, place_rd_left _ _ _ (by omega) (by omega)]; exact place_sts_zero s n
  ·
   rw [if_neg e]; exact place_sts_zero s n
set_option maxHeartbeats 2000000 in
set_option maxRecDepth 100000 in
theorem place_At.calls (g : Nat) (s : ByteArray) (L : List Int) (off : Int) (w : World) (hI : place_Is w g s L) (hG : place_Good s L) (hz : rd L 0 = 0) :
 Calls Try.prog 20 #[.pointer (some ⟨g, 0, none⟩), .int .i64 off] w fun e w' => e = .returned (.tuple #[.int .i64 ((place_line s L off : Nat) + 1), .int .i64 (place_held s off - rd L (place_line s L off : Nat) + 1)]) ∧ Below w.heap.size w w' := by
 obtain ⟨A, c, hg, hlc, hC⟩ := hI
 have hc0 := kC hg 0
 have hc1 := kC hg 1
 simp at hc0 hc1
 have HG := mK hG
 have HC := mK hC
 have hsp := place_line_spec s L off hG hz
 obtain ⟨R, hR⟩ : ∃ R, R = place_line s L off := ⟨_, rfl⟩
 rw [← hR] at hsp ⊢
 have hh1 : (if (s.size : Int) < off then (s.size : Int) else off) = mn off (s.size : Int) := rfl
 have hx : place_held s off = (if 0 < mn off (s.size : Int) then mn off (s.size : Int) else 0) := by
  unfold place_held mn
  by_cases h1 : off < 0
  ·
   rw [if_pos h1, if_neg (show ¬ (s.size : Int) < off by omega), if_neg (by omega)]
  ·
   rw [if_neg h1]
   by_cases h2 : (s.size : Int) < off
   ·
    rw [if_pos h2]; split <;> omega
   ·
    rw [if_neg h2]; split <;> omega
 obtain ⟨x, hxx⟩ : ∃ x, place_held s off = x := ⟨_, rfl⟩
 have hxb : 0 ≤ x ∧ x ≤ 1000000 := by rw [← hxx]; have := hG.size; unfold place_held; split <;> (try split) <;> omega
 rw [hxx] at hx hsp ⊢
 have hR2 : R = place_bis L x L.length 0 L.length := by rw [hR]; unfold place_line; rw [hxx]
 have hh2 : (if 0 < mn off (s.size : Int) then mn off (s.size : Int) else 0) = x := hx.symm
 have HSP := mK hsp
 have HR2 := mK hR2
 have hx0 : 0 ≤ x := hxb.1
 have hx1 : x ≤ 1000000 := hxb.2
 have hL := hG.len
 have hL1 := hG.pos
 clear hx hsp hR hR2 hxb hxx hG hC hg
 generalize hm : mn off (s.size : Int) = m at hh1 hh2
 clear hm
 go_enter Try.func20, Try.ntmps20
 go_wp2
 repeat (go_quiet (fail); try go_wp2)
 go_loopg [6, 7] L.length (fun kx v6 v7 wr => ∃ (lo hi q : Nat), v6 = .int .i64 lo ∧ v7 = .int .i64 hi ∧ lo < hi ∧ hi ≤ L.length ∧ wr = w.drewN q ∧ Aside0 (hi - lo ≤ kx ∧ place_bis L x kx lo hi = R))
 case atStart => exact ⟨0, L.length, nq, rfl, rfl, by omega, Nat.le_refl _, rfl, ⟨⟨by omega, HR2.out.symm⟩⟩⟩
 case round =>
  obtain ⟨lo, hi, q, rfl, rfl, hlh, hil, rfl, I⟩ := hrel
  by_cases h : 1 < hi - lo
  ·
   have hm : (((lo + hi) / 2 : Nat) : Int) = ((lo : Int) + (hi : Int)) / 2 := by omega
   obtain ⟨ad, e, hx⟩ := Kd.at_int HC.out (((lo : Int) + (hi : Int)) / 2) (by omega) (by omega)
   cases e
   have ht : (((lo : Int) + (hi : Int)) / 2).toNat = (lo + hi) / 2 := by omega
   rw [ht] at hx
   have hs1 : decide (1 < (hi : Int) - (lo : Int)) = true := decide_eq_true (by omega)
   have hq0 : 0 ≤ ((lo : Int) + (hi : Int)) / 2 := by omega
   have hq1 : ((lo : Int) + (hi : Int)) / 2 < (L.length : Int) := by omega
   obtain ⟨k1, hk1⟩ : ∃ k1, gk = k1 + 1 := ⟨gk - 1, by have := I.out.1; omega⟩
   have hb := I.out.2
   rw [hk1, place_bis, if_pos h, hm] at hb
   generalize hy : rd L (((lo : Int) + (hi : Int)) / 2) = y at hx hb
   clear hy
   by_cases hc : y ≤ x
   ·
    rw [if_pos hc] at hb
    have HBB := mK hb
    have HK := mK hk1
    have hcb : decide (y ≤ x) = true := decide_eq_true hc
    clear hb hc hm hk1
    go_wp2
    repeat (go_quiet (fail); try go_wp2)
    go_roundg k1
    case measure => have := HK.out; omega
    case rel => exact ⟨(lo + hi) / 2, hi, q, by first | rfl | (congr 1; omega), rfl, by omega, hil, rfl, ⟨by have := I.out.1; have := HK.out; omega, HBB.out⟩⟩
   ·
    rw [if_neg hc] at hb
    have HBB := mK hb
    have HK := mK hk1
    have hcb : decide (y ≤ x) = false := decide_eq_false hc
    clear hb hc hm hk1
    go_wp2
    repeat (go_quiet (fail); try go_wp2)
    go_roundg k1
    case measure => have := HK.out; omega
    case rel => exact ⟨lo, (lo + hi) / 2, q, rfl, by first | rfl | (congr 1; omega), by omega, by omega, rfl, ⟨by have := I.out.1; have := HK.out; omega, HBB.out⟩⟩
  ·
   have hs1 : decide (1 < (hi : Int) - (lo : Int)) = false := decide_eq_false (by omega)
   have hb := I.out.2
   have e2 : lo = R := by
    rw [← hb]
    cases gk with
    | zero => rfl
    | succ k => unfold place_bis; rw [if_neg h]
   subst e2
   have hl := HG.out.low (lo : Int) (by omega) (by omega)
   obtain ⟨ad, e, hx⟩ := Kd.at_int HC.out (lo : Int) (by omega) (by omega)
   cases e
   rw [Int.toNat_natCast] at hx
   have hle := HSP.out.2.1
   generalize hy : rd L (lo : Int) = y at hx hl hle ⊢
   have HY := mK hy
   have hy0 := hl.1
   have hy1 : y ≤ 1000000 := by have := HG.out.size; omega
   have hlo1 : (lo : Int) < (L.length : Int) := by omega
   have hlo0 : (0 : Int) ≤ (lo : Int) := by omega
   clear hb hl hy HSP I HR2
   go_wp2
   repeat (go_quiet (fail); try go_wp2)
   go_ret2
   exact ⟨by rw [HY.out]; rfl, bN (bN (Below.refl _ _) _) _⟩


/-! ### place_Index_Line: function 37 -/
def place_linef (s : ByteArray) (L : List Int) (n : Int) : ByteArray := if n < 1 ∨ (L.length : Int) < n then ⟨#[]⟩ else s.extract (rd L (n - 1)).toNat (place_endf s L (n - 1)).toNat
set_option maxHeartbeats 2000000 in
set_option maxRecDepth 100000 in
theorem place_Line.calls (g : Nat) (s : ByteArray) (L : List Int) (n : Int) (w : World) (hI : place_Is w g s L) (hG : place_Good s L) :
 Calls Try.prog 37 #[.pointer (some ⟨g, 0, none⟩), .int .i64 n] w fun e w' => e = .returned (.string (place_linef s L n)) ∧ Below w.heap.size w w' := by
 have HI := mK hI
 obtain ⟨A, c, hg, hlc, hC⟩ := hI
 have hc0 := kC hg 0
 have hc1 := kC hg 1
 simp at hc0 hc1
 unfold place_linef
 by_cases h1 : n < 1 ∨ (L.length : Int) < n
 ·
  rw [if_pos h1]
  clear hg hC hG
  by_cases h2 : n < 1
  ·
   have b1 : decide (n < 1) = true := decide_eq_true h2
   clear h1
   go_enter Try.func37, Try.ntmps37
   go_wp2
   go_ret
   exact ⟨rfl, Below.refl _ _⟩
  ·
   have b1 : decide (n < 1) = false := decide_eq_false h2
   have b2 : decide ((L.length : Int) < n) = true := decide_eq_true (by omega)
   clear h1
   go_enter Try.func37, Try.ntmps37
   go_wp2
   go_ret
   exact ⟨rfl, Below.refl _ _⟩
 ·
  rw [if_neg h1]
  have b1 : decide (n < 1) = false := decide_eq_false (by omega)
  have b2 : decide ((L.length : Int) < n) = false := decide_eq_false (by omega)
  have hl1 : 1 ≤ n := by omega
  have hl2 : n ≤ (L.length : Int) := by omega
  have hl3 := hG.len
  have hend := place_endf_le s L hG (n - 1) (by omega) (by omega)
  have hlow := hG.low (n - 1) (by omega) (by omega)
  obtain ⟨ad, e, hx⟩ := Kd.at_int hC (n - 1) (by omega) (by omega)
  cases e
  rw [show (n - 1).toNat = n.toNat - 1 by omega] at hx
  have HEND := mK (fun w' (hb : Below w.heap.size w w') => place_end.calls g s L (n - 1) w' (HI.out.below hb) hG (by omega) (by omega))
  have HX := mK (show w.cell? ⟨g, 0, none⟩ = some (.string s) ∧ w.cell? ⟨g, 1, none⟩ = some (.slice (some ad) L.length c) ∧ w.cell? (ad.add (n.toNat - 1)) = some (.int .i64 (rd L (n - 1))) from ⟨hc0, hc1, hx⟩)
  have hsz := hG.size
  generalize hE : place_endf s L (n - 1) = E at hend ⊢ HEND
  generalize hY : rd L (n - 1) = y at hend hlow hx ⊢ HX
  have hy0 := hlow.1
  have hy1 : y ≤ 1000000 := by omega
  have he1 : y ≤ E := hend.1
  have he2 : E ≤ (s.size : Int) := hend.2
  have he3 : 0 ≤ E := by omega
  have hi0 : 0 ≤ n - 1 := by omega
  have hi1 : n - 1 < (L.length : Int) := by omega
  have hw1 : IntKind.i64.wrap (n - 1) = n - 1 := IntWalk.i64_in _ (by omega)
  clear hE hY hend hlow hg hC hG h1
  generalize L.length = m at *
  go_enter Try.func37, Try.ntmps37
  go_wp2
  go_region_held3 (fun w' => w'.cell? ⟨g, 0, none⟩ = some (.string s) ∧ w'.cell? ⟨g, 1, none⟩ = some (.slice (some ad) m c) ∧ w'.cell? (ad.add (n.toNat - 1)) = some (.int .i64 y)) (first | exact ⟨hc0, hc1, hx⟩ | exact ⟨hc0e, hc1e, hxe⟩)
   (first | (go_at_call 45; ((with_reducible refine (HEND.out _ (below_drew (Below.refl _ _))).mono ?_)); rintro e we ⟨rfl, hb⟩; have hB := bP (below_drew (Below.refl w.heap.size w)) hb; have hc0e := (hB.cell (World.block_lt_of_cell? w _ HX.out.1)).trans HX.out.1; have hc1e := (hB.cell (World.block_lt_of_cell? w _ HX.out.2.1)).trans HX.out.2.1; have hxe := (hB.cell (World.block_lt_of_cell? w _ HX.out.2.2)).trans HX.out.2.2; have HB := mK hB; clear hb hB))
  go_wp2
  go_ret
  exact ⟨rfl, HB.out⟩


/-! ### place_Index_Mark: function 21 -/
theorem row_storeCells (P : Program) (g o : Nat) (t : TypeId) (fz : Nat × Nat) : ∀ (vs : List Value) (i : Nat) (cur : Array Value) (w : World), w.heap[g]? = some (.cells cur t fz) → (fz.2 ≤ o + i ∨ o + i + vs.length ≤ fz.1) → o + i + vs.length ≤ cur.size → (∀ v ∈ vs, v.oneCell' = true) →
 (storeCells ⟨g, o, none⟩ vs i).run P w = .ok () (w.setRow g (cur.toList.take (o + i) ++ vs ++ cur.toList.drop (o + i + vs.length)).toArray)
 | [], i, cur, w, hg, _, _, _ => by
  simp only [storeCells, List.append_nil, List.length_nil, Nat.add_zero, List.take_append_drop, Array.toArray_toList]
  rw [setRow_self w g cur t fz hg]
  rfl
 | v :: rest, i, cur, w, hg, hfz, hl, h1 => by
  have hi : o + i < cur.size := by simp at hl; omega
  have hadd : (⟨g, o, none⟩ : Addr).add i = ⟨g, o + i, none⟩ := by unfold Addr.add; split <;> simp_all
  have hcell : w.cell? ⟨g, o + i, none⟩ = some cur[o + i] := by simp [World.cell?, hg, hi]
  have hfro : w.frozen? ⟨g, o + i, none⟩ = false := by
   obtain ⟨lo, hi'⟩ := fz
   simp only [World.frozen?, hg, Bool.and_eq_false_iff, decide_eq_false_iff_not]
   simp only [List.length_cons] at hfz
   omega
  have hst : (store ((⟨g, o, none⟩ : Addr).add i) v).run P w = .ok () (w.setRow g (cur.setIfInBounds (o + i) v)) := by
   rw [hadd, run_store P w _ v _ (h1 v (by simp)), hcell]
   simp [hfro, setCell_eq_setRow w g (o + i) cur t fz v hg]
  have ih := row_storeCells P g o t fz rest (i + 1) (cur.setIfInBounds (o + i) v) (w.setRow g (cur.setIfInBounds (o + i) v)) (setRow_heap w g cur _ t _ hg) (by simp only [List.length_cons] at hfz; omega) (by simp at hl ⊢; omega) (fun x hx => h1 x (by simp [hx]))
  simp only [storeCells, Sem.run_bind, hst, Result.andThen_ok, ih, setRow_setRow]
  congr 3
  have e := list_seg_step cur.toList (o + i) v rest (by simp at hl ⊢; omega)
  simpa [Array.toList_setIfInBounds, Nat.add_assoc] using e
/-- A row of bytes that is a call's own; it may bear, behind its end, the mark of a conversion. -/
def rowOfBytes (e : TypeId) (w : World) (B : Nat) (v : Value) (xs : List Int) : Prop :=
 ∃ g cap cur fz, v = .slice (some ⟨g, 0, none⟩) xs.length cap ∧ B ≤ g ∧ w.heap[g]? = some (.cells cur e fz) ∧ (fz.2 = 0 ∨ cap ≤ fz.1) ∧ xs.length ≤ cap ∧ cap ≤ maxLen ∧ cur.size = cap ∧ cur.toList.take xs.length = xs.map (Value.int .u8)
theorem rowOfBytes.cell {e : TypeId} {w : World} {B : Nat} {v : Value} {xs : List Int} (h : rowOfBytes e w B v xs) : ∃ g cap, v = .slice (some ⟨g, 0, none⟩) xs.length cap ∧ B ≤ g ∧ g < w.heap.size ∧ ∀ j, j < xs.length → w.cell? ⟨g, j, none⟩ = some (.int .u8 (xs.getD j 0)) := by
 obtain ⟨g, cap, cur, fz, rfl, hB, hg, _, hn, _, hcs, ht⟩ := h
 refine ⟨g, cap, rfl, hB, blk_lt hg, fun j hj => ?_⟩
 rw [cell_of_row w g j cur e fz hg]
 have h1 : (cur.toList.take xs.length)[j]? = (xs.map (Value.int .u8))[j]? := by rw [ht]
 rw [List.getElem?_take, if_pos hj] at h1
 rw [← Array.getElem?_toList, h1]
 simp [List.getD_eq_getElem?_getD, hj]
theorem rowOfBytes.kept {e : TypeId} {w w' : World} {B : Nat} {v : Value} {xs : List Int} (h : rowOfBytes e w B v xs) (hk : ∀ k, k < w.heap.size → w'.heap[k]? = w.heap[k]?) : rowOfBytes e w' B v xs := by
 obtain ⟨g, cap, cur, fz, rfl, hB, hg, r⟩ := h
 exact ⟨g, cap, cur, fz, rfl, hB, (hk g (blk_lt hg)).trans hg, r⟩
theorem rowOfBytes.conv (e : TypeId) (w : World) (B : Nat) (s : ByteArray) (hB : B ≤ w.heap.size) (hs : s.size ≤ 1000000) : rowOfBytes e (Lib.bytesWorld w e s) B (.slice (some ⟨w.heap.size, 0, none⟩) s.size (grownCap w s.size 0 e)) (bytesOf s) := by
 have hl := bytesOf_length s
 have hge := grownCap_ge w s.size 0 e
 have hmx := grownCap_le_maxLen w s.size 0 e (by simp only [maxLen]; omega)
 have hsz : (Lib.bytesCells w e s).size = grownCap w s.size 0 e := by
  unfold Lib.bytesCells
  rw [Array.size_append, Array.size_map, Array.size_replicate]
  have : s.data.size = s.size := rfl
  omega
 refine ⟨w.heap.size, grownCap w s.size 0 e, _, _, by rw [hl], hB, Lib.bytesWorld_at_new w e s, .inr (by omega), by omega, hmx, hsz, ?_⟩
 unfold Lib.bytesCells
 rw [Array.toList_append, hl, List.take_left' (by simp)]
 simp [bytesOf]
theorem rowOfBytes.run_append {P : Program} (w : World) (B : Nat) (t ty e : TypeId) (i : TypeInfo) (ht : P.underlying t = some (.slice e)) (hi : P.info? e = some i) (hz : i.zero = some (.int .u8 0)) (hsize : i.size = 1) (hby : i.bytes = 1)
 (v : Value) (xs : List Int) (b : Int) (h : rowOfBytes e w B v xs) (a : Addr) (c : Nat) (hb : w.cell? a = some (.int .u8 b)) (hl : xs.length + 1 ≤ 1000000) (hB : B ≤ w.heap.size) :
 ∃ v' w', (Builtin.append_ #[t, t] ty #[v, .slice (some a) 1 c]).run P w = .ok v' w' ∧ rowOfBytes e w' B v' (xs ++ [b]) ∧ w.grownBy w' v.ownBlock := by
 have hrow := h
 obtain ⟨g, cap, cur, fz, rfl, hBg, hg, hfz, hnc, hcm, hcs, htk⟩ := h
 have hnews : ∀ (j : Nat) (u : Value), [Value.int .u8 b][j]? = some u → w.cell? (a.add j) = some u := by
  intro j u hu
  match j with
  | 0 =>
   have e0 : a.add 0 = a := by unfold Addr.add; simp
   rw [e0, hb]; simpa using hu
  | j + 1 => simp at hu
 have hone : ∀ u ∈ [Value.int .u8 b], u.oneCell' = true := by simp [Value.oneCell']
 by_cases hroom : xs.length + 1 ≤ cap
 ·
  have hf := run_firstCells_some (P := P) w i.size 1 a 1 c [Value.int .u8 b] (by simp [hsize]) hnews
  have hst := row_storeCells P g xs.length e fz [Value.int .u8 b] 0 cur w hg (by simp; omega) (by simp; omega) hone
  simp only [Nat.add_zero, List.length_singleton] at hst
  have hrun : (Builtin.append_ #[t, t] ty #[.slice (some ⟨g, 0, none⟩) xs.length cap, .slice (some a) 1 c]).run P w = .ok (.slice (some ⟨g, 0, none⟩) (xs.length + 1) cap) (w.setRow g (cur.toList.take xs.length ++ [Value.int .u8 b] ++ cur.toList.drop (xs.length + 1)).toArray) := by
   rw [hsize] at hf
   simp [Builtin.append_, run_underlying ht, sizeOf, typeInfo, hi, hsize, Builtin.lenOf, hroom, hf, Addr.add_lit, hst]
  refine ⟨_, _, hrun, ⟨g, cap, _, fz, by simp, hBg, setRow_heap w g cur _ e _ hg, hfz, by simp; omega, hcm, ?_, ?_⟩, ⟨rfl, rfl, rfl, by simp, fun k _ hk => setRow_other w g k _ (fun e => hk (by simp [Value.ownBlock, e]))⟩⟩
  ·
   simp only [List.size_toArray, List.length_append, List.length_take, List.length_drop, Array.length_toList, List.length_singleton]
   omega
  ·
   rw [htk, show (xs ++ [b]).length = (xs.map (Value.int .u8) ++ [Value.int .u8 b]).length by simp, List.map_append]
   exact List.take_left
 ·
  obtain ⟨g', cap', e', _, _, hcell⟩ := hrow.cell
  injection e' with ea eb ec
  injection ea with ea
  injection ea with ea _ _
  subst ea
  have holds : ∀ (j : Nat) (u : Value), (xs.map (Value.int .u8))[j]? = some u → w.cell? ((⟨g, 0, none⟩ : Addr).add j) = some u := by
   intro j u hu
   have hadd : (⟨g, 0, none⟩ : Addr).add j = ⟨g, j, none⟩ := by unfold Addr.add; split <;> simp_all
   obtain ⟨hj, hju⟩ := List.getElem?_eq_some_iff.1 hu
   have hj' : j < xs.length := by simpa using hj
   rw [hadd, hcell j hj', ← hju]
   simp [List.getD_eq_getElem?_getD, hj']
  have hr := run_append_grow (P := P) w t ty e i (.int .u8 0) ht hi hz ⟨g, 0, none⟩ xs.length cap (xs.map (Value.int .u8)) (by simp [hsize]) holds a 1 c [Value.int .u8 b] (by simp [hsize]) hnews (by omega) (by omega) (by rw [hby]; exact growslice_fits (by omega) (by omega))
  have hge := grownCap_ge w (xs.length + 1) cap e
  have hcm2 : grownCap w (xs.length + 1) cap e ≤ maxLen := grownCap_le_maxLen w (xs.length + 1) cap e (by simp only [maxLen]; omega)
  refine ⟨_, _, hr, ⟨w.heap.size, _, _, (0, 0), by simp, hB, heap_alloc_new w.drew _, .inl rfl, by simp; omega, hcm2, ?_, ?_⟩, ⟨rfl, rfl, rfl, by simp, fun k hk _ => by first | exact heap_alloc_old w.drew _ k hk | exact heap_alloc_old w.drew _ hk⟩⟩
  ·
   have hz1 : (Value.int IntKind.u8 0).cells.size = 1 := rfl
   simp only [Array.size_append, List.size_toArray, size_zeroCells, hz1, List.length_map, List.length_singleton]
   omega
  ·
   rw [show (xs ++ [b]).length = (xs.map (Value.int .u8) ++ [Value.int .u8 b]).length by simp, List.map_append, Array.toList_append, Array.toList_append]
   exact List.take_left
section
variable {P : Program} {ops : Array Oper} {rest : List Oper} {o : Oper} {a : Act} {Q : Exit → Act → World → Prop} {K : Act → World → Prop}
theorem rowOfBytes.wp {w0 W : World} (B : Nat) (hgd : o.guard = none) (s x : Operand) (t e : TypeId) (ho : o.op = .call { callee := .builtin .append, args := #[s, x], argTypes := #[t, t] })
 (ht : P.underlying t = some (.slice e)) (hinfo : (P.info? e).map (fun i => (i.zero, i.size, i.bytes)) = some (some (.int .u8 0), 1, 1))
 (v : Value) (xs : List Int) (b : Int) (hs : a.eval s = v) (hx : a.eval x = .slice (some ⟨W.heap.size, 0, none⟩) 1 1) (HO : rowOfBytes e W B v xs) (HB : Below B w0 W) (hbase : B ≤ W.heap.size) (hl : xs.length + 1 ≤ 1000000)
 (h : ∀ v1 w1, rowOfBytes e w1 B v1 (xs ++ [b]) → Below B w0 w1 → W.grownBy w1 v.ownBlock → wpList P ops Q rest (a.put o.dst v1) w1) :
 wpList P ops Q (o :: rest) a (W.alloc (.cells #[.int .u8 b] e)) := by
 obtain ⟨i0, hi, hzz⟩ := Option.map_eq_some_iff.1 hinfo
 simp only [Prod.mk.injEq] at hzz
 obtain ⟨hz0, hz1, hz2⟩ := hzz
 have hown : ∀ k, v.ownBlock = some k → B ≤ k := by
  obtain ⟨g, cap, _, _, rfl, hg, _⟩ := HO
  intro k hk
  simp [Value.ownBlock] at hk
  omega
 have HO2 := HO.kept (w' := W.alloc (.cells #[.int .u8 b] e)) (fun k hk => by first | exact heap_alloc_old W _ k hk | exact heap_alloc_old W _ hk)
 refine wpList_plain hgd fun K hK => ?_
 obtain ⟨v1, w1, hr, h2, h3⟩ := rowOfBytes.run_append (P := P) (W.alloc (.cells #[.int .u8 b] e)) B t o.type e i0 ht hi hz0 hz1 hz2 v xs b HO2 ⟨W.heap.size, 0, none⟩ 1 ((kC (blk_new W _) 0).trans rfl) hl (by simp; omega)
 unfold Oper.wp execOp
 simp only [ho, resolve, invoke, builtin, Sem.run_bind, Sem.run_pure, Result.andThen_ok, List.map_toArray, List.map_cons, List.map_nil, hs, hx, hr]
 exact hK _ _ (h v1 w1 h2 ((HB.alloc hbase _).grown h3 (by simp; omega) hown) (World.grownBy.trans (World.grownBy_alloc W _ _) h3))
end

def place_padded (B : List Int) : Nat → List Int
 | 0 => B
 | k + 1 => place_padded B k ++ [if B.getD k 0 = 9 then 9 else 32]
theorem place_padded_spec (B : List Int) : ∀ k, (place_padded B k).length = B.length + k ∧ ∀ j, j < B.length → (place_padded B k).getD j 0 = B.getD j 0
 | 0 => ⟨rfl, fun _ _ => rfl⟩
 | k + 1 => by
  obtain ⟨h1, h2⟩ := place_padded_spec B k
  unfold place_padded
  refine ⟨by simp; omega, fun j hj => ?_⟩
  rw [← h2 j hj]; simp only [List.getD_eq_getElem?_getD]; rw [List.getElem?_append_left (by omega)]
def place_marked (l : ByteArray) (c : Nat) : ByteArray := strOfNums (place_padded (bytesOf (l ++ (⟨#[10]⟩ : ByteArray))) c ++ [94])
theorem place_byte_info : (Try.prog.info? 5).map (fun i => (i.zero, i.size, i.bytes)) = some (some (.int .u8 0), 1, 1) := by kernel_rfl
theorem place_conv (s : ByteArray) (W : World) : (convert 9 79 (.string s)).run Try.prog W = .ok (.slice (some ⟨W.heap.size, 0, none⟩) s.size (grownCap W s.size 0 5)) (Lib.bytesWorld W 5 s) :=
 Lib.run_convert_string_bytes W 9 79 5 s Try.underlying9 Try.underlying79 Try.underlying5
theorem place_back {w : World} {B : Nat} {v : Value} {xs : List Int} (h : rowOfBytes 5 w B v xs) : (convert 79 9 v).run Try.prog w = .ok (.string (strOfNums xs)) w := by
 obtain ⟨g, cap, rfl, _, _, hc⟩ := h.cell
 exact run_convert_bytes_arg (P := Try.prog) w 79 5 Try.underlying79 Try.underlying5 g 0 xs.length cap xs rfl (fun i hi => by rw [Nat.zero_add]; exact hc i hi) 9 Try.underlying9
set_option maxHeartbeats 4000000 in
set_option maxRecDepth 100000 in
theorem place_Mark.calls (g : Nat) (s : ByteArray) (L : List Int) (off : Int) (w : World) (hI : place_Is w g s L) (hG : place_Good s L) (hz : rd L 0 = 0) (hs : s.size ≤ 2000) :
 Calls Try.prog 21 #[.pointer (some ⟨g, 0, none⟩), .int .i64 off] w fun e w' => e = .returned (.string (place_marked (place_linef s L ((place_line s L off : Nat) + 1)) (place_held s off - rd L (place_line s L off : Nat)).toNat)) ∧ Below w.heap.size w w' := by
 have HI := mK hI
 have hA := fun w' (hb : Below w.heap.size w w') => place_At.calls g s L off w' (HI.out.below hb) hG hz
 have hLn := fun w' (hb : Below w.heap.size w w') => place_Line.calls g s L (((place_line s L off : Nat) : Int) + 1) w' (HI.out.below hb) hG
 obtain ⟨q1, q2, q3⟩ := place_line_spec s L off hG hz
 have hend := place_endf_le s L hG ((place_line s L off : Nat) : Int) (by omega) (by omega)
 have hlow := hG.low ((place_line s L off : Nat) : Int) (by omega) (by omega)
 have hheld : 0 ≤ place_held s off ∧ place_held s off ≤ s.size := by unfold place_held; split <;> (try split) <;> omega
 have hce : place_held s off ≤ place_endf s L ((place_line s L off : Nat) : Int) := by
  unfold place_endf
  split
  ·
   have := q3 (by omega)
   rw [show ((place_line s L off + 1 : Nat) : Int) = ((place_line s L off : Nat) : Int) + 1 by omega] at this
   omega
  ·
   exact hheld.2
 have hl : (place_linef s L (((place_line s L off : Nat) : Int) + 1)).size = (place_endf s L ((place_line s L off : Nat) : Int)).toNat - (rd L ((place_line s L off : Nat) : Int)).toNat := by
  unfold place_linef
  rw [if_neg (by omega), show ((place_line s L off : Nat) : Int) + 1 - 1 = ((place_line s L off : Nat) : Int) by omega, ByteArray.size_extract]
  omega
 have hcn : (place_held s off - rd L ((place_line s L off : Nat) : Int)).toNat ≤ (place_linef s L (((place_line s L off : Nat) : Int) + 1)).size := by rw [hl]; omega
 have hsz : (place_linef s L (((place_line s L off : Nat) : Int) + 1)).size ≤ 2000 := by rw [hl]; omega
 have hcol : place_held s off - rd L ((place_line s L off : Nat) : Int) = (((place_held s off - rd L ((place_line s L off : Nat) : Int)).toNat : Nat) : Int) := by omega
 have hln : ((place_line s L off : Nat) : Int) + 1 ≤ 1000002 := by have := hG.len; omega
 clear hl hce hheld hend hlow q1 q2 q3
 generalize place_linef s L (((place_line s L off : Nat) : Int) + 1) = l at hcn hsz hLn ⊢
 generalize (place_held s off - rd L ((place_line s L off : Nat) : Int)).toNat = c at hcn hcol ⊢
 generalize place_held s off - rd L ((place_line s L off : Nat) : Int) = cz at hcol hA
 subst hcol
 generalize ((place_line s L off : Nat) : Int) + 1 = ln at hA hLn hln
 have HA := mK hA
 have HLN := mK hLn
 have hc2 : c ≤ 2000 := by omega
 have hw : IntKind.i64.wrap ((c : Int) + 1 - 1) = (c : Int) := by rw [show (c : Int) + 1 - 1 = (c : Int) by omega]; exact IntWalk.i64_in _ (by omega)
 have hsc : (l ++ (⟨#[10]⟩ : ByteArray)).size = l.size + 1 := by rw [ByteArray.size_append]; rfl
 have hcat : (9223372036854775807 < l.size + 1) = False := eq_false (by omega)
 clear hA hLn hI hG
 generalize hcc : (c : Int) + 1 = cc at HA hw
 clear hcc
 have hconv := place_conv
 unfold place_marked
 obtain ⟨B, hB⟩ : ∃ B, B = bytesOf (l ++ (⟨#[10]⟩ : ByteArray)) := ⟨_, rfl⟩
 have hBl : B.length = l.size + 1 := by rw [hB, bytesOf_length, hsc]
 rw [← hB]
 have HP := mK (place_padded_spec B)
 have HBB := mK hB
 clear hB
 go_enter Try.func21, Try.ntmps21
 go_wp2_with (first
  | (go_at_call 20; ((with_reducible refine (HA.out _ (Below.refl _ _)).mono ?_)); rintro e w1 ⟨rfl, hb⟩; have HB1 := mK hb; clear hb)
  | (go_at_call 37; ((with_reducible refine (HLN.out _ HB1.out).mono ?_)); rintro e w2 ⟨rfl, hb⟩; have HB2 := mK (bP HB1.out hb); clear hb HB1))
 have hl1 : l.size + 1 ≤ 2001 := by omega
 go_loopg [7, 23] (c + 1) (fun kx v7 v23 wr => ∃ i : Nat, v23 = .int .i64 (i : Int) ∧ Aside0 (kx + i = c + 1 ∧ i ≤ c ∧ rowOfBytes 5 wr w.heap.size v7 (place_padded B i) ∧ Below w.heap.size w wr))
 case atStart =>
  refine ⟨0, rfl, ⟨rfl, Nat.zero_le _, ?_, bytes_below HB2.out HB2.out.size _ _⟩⟩
  have h := rowOfBytes.conv 5 w2 w.heap.size (l ++ (⟨#[10]⟩ : ByteArray)) HB2.out.size (by rw [hsc]; omega)
  rw [hsc, ← HBB.out] at h
  exact h
 case round =>
  obtain ⟨i, rfl, I⟩ := hrel
  obtain ⟨gr, cap, rfl, hgB, hgs, hcell⟩ := I.out.2.2.1.cell
  have hpl := (HP.out i).1
  by_cases hi : i < c
  ·
   have hx := hcell i (by omega)
   have hx2 : wr.cell? ((⟨gr, 0, none⟩ : Addr).add i) = some (.int .u8 ((place_padded B i).getD i 0)) := by rw [add_plain]; simpa using hx
   have hin : i < (place_padded B i).length := by omega
   have hy : (place_padded B i).getD i 0 = B.getD i 0 := (HP.out i).2 i (by omega)
   rw [hy] at hx hx2
   have hnx : place_padded B (i + 1) = place_padded B i ++ [if B.getD i 0 = 9 then 9 else 32] := rfl
   have hiw : IntKind.i64.wrap ((i : Int) + 1) = ((i + 1 : Nat) : Int) := by rw [IntWalk.i64_in _ (by omega)]; omega
   have hilt : decide ((i : Int) < (c : Int)) = true := decide_eq_true (by omega)
   have HL := mK (show (place_padded B i).length + 1 ≤ 1000000 by omega)
   have HR := mK I.out.2.2.1
   clear hcell hy
   by_cases hnine : B.getD i 0 = 9
   ·
    rw [if_pos hnine] at hnx
    rw [hnine] at hx hx2
    have HN := mK hnx
    clear hnx hnine hpl
    generalize hX : place_padded B i = X at *
    go_wp2_with ((with_reducible refine gate_builtin (b := .append) (xs := #[.tmp 31, .tmp 33]) rfl ?_); at_builtin; refine rowOfBytes.wp (w0 := w) (W := wr) w.heap.size ?b11 (.tmp 31) (.tmp 33) 79 5 ?b12 ?b13 ?b14 ?v1 X 9 ?b15 ?b16 ?b1O ?b1B ?b1S ?b1L ?_; (case b11 => rfl); (case b12 => rfl); (case b13 => exact Try.underlying79); (case b14 => exact place_byte_info); (case b15 => rfl); (case b16 => rfl); (case b1O => exact HR.out); (case b1B => exact I.out.2.2.2); (case b1S => exact I.out.2.2.2.size); (case b1L => exact HL.out); intro v9 w9 ho hb hgr; rw [← HN.out] at ho; have HO := mK (And.intro ho hb); clear ho hb hgr)
    go_roundg (gk - 1)
    case measure => have := I.out.1; omega
    case rel => exact ⟨i + 1, rfl, ⟨by have := I.out.1; omega, by omega, HO.out.1, HO.out.2⟩⟩
   ·
    rw [if_neg hnine] at hnx
    generalize B.getD i 0 = y at hnine hx hx2
    have hnb : (y == 9) = false := bQ hnine
    have HN := mK hnx
    clear hnx hnine hpl
    generalize hX : place_padded B i = X at *
    go_wp2_with ((with_reducible refine gate_builtin (b := .append) (xs := #[.tmp 31, .tmp 33]) rfl ?_); at_builtin; refine rowOfBytes.wp (w0 := w) (W := wr) w.heap.size ?b21 (.tmp 31) (.tmp 33) 79 5 ?b22 ?b23 ?b24 ?v2 X 32 ?b25 ?b26 ?b2O ?b2B ?b2S ?b2L ?_; (case b21 => rfl); (case b22 => rfl); (case b23 => exact Try.underlying79); (case b24 => exact place_byte_info); (case b25 => rfl); (case b26 => rfl); (case b2O => exact HR.out); (case b2B => exact I.out.2.2.2); (case b2S => exact I.out.2.2.2.size); (case b2L => exact HL.out); intro v9 w9 ho hb hgr; rw [← HN.out] at ho; have HO := mK (And.intro ho hb); clear ho hb hgr)
    go_roundg (gk - 1)
    case measure => have := I.out.1; omega
    case rel => exact ⟨i + 1, rfl, ⟨by have := I.out.1; omega, by omega, HO.out.1, HO.out.2⟩⟩
  ·
   have hilt : decide ((i : Int) < (c : Int)) = false := decide_eq_false (by omega)
   have hic : i = c := by have := I.out.2.1; omega
   have HL := mK (show (place_padded B i).length + 1 ≤ 1000000 by omega)
   have HR := mK I.out.2.2.1
   have HC := mK hic
   have hilt2 : decide (i < c) = false := decide_eq_false hi
   have hilt3 : c ≤ i := by omega
   clear hcell hpl hic
   generalize hX : place_padded B i = X at *
   go_wp2_with ((with_reducible refine gate_builtin (b := .append) (xs := #[.tmp 36, .tmp 37]) rfl ?_); at_builtin; refine rowOfBytes.wp (w0 := w) (W := wr) w.heap.size ?b31 (.tmp 36) (.tmp 37) 79 5 ?b32 ?b33 ?b34 ?v3 X 94 ?b35 ?b36 ?b3O ?b3B ?b3S ?b3L ?_; (case b31 => rfl); (case b32 => rfl); (case b33 => exact Try.underlying79); (case b34 => exact place_byte_info); (case b35 => rfl); (case b36 => rfl); (case b3O => exact HR.out); (case b3B => exact I.out.2.2.2); (case b3S => exact I.out.2.2.2.size); (case b3L => exact HL.out); intro v9 w9 ho hb hgr; have hcv := place_back ho; have HO := mK hb; clear ho hb hgr)
   go_ret
   have hX2 := hX
   rw [HC.out] at hX2
   rw [hX2]
   exact ⟨rfl, HO.out⟩


/-! ### report_Fault: function 7 -/
def PlIs (w0 W : World) (g : Nat) (f0 : ByteArray) (f1 : List Int) : Prop := place_Is W g f0 f1 ∧ w0.heap.size ≤ g
theorem PlIs.below {w0 W W1 : World} {g : Nat} {f0 : ByteArray} {f1 : List Int} (h : PlIs w0 W g f0 f1) (hb : Below W.heap.size W W1) : PlIs w0 W1 g f0 f1 := ⟨h.1.below hb, h.2⟩
theorem PlIs.alloc {w0 W : World} {g : Nat} {f0 : ByteArray} {f1 : List Int} (h : PlIs w0 W g f0 f1) (o : Obj) : PlIs w0 (W.alloc o) g f0 f1 := h.below (bA (Below.refl _ _) o)
theorem PlIs.drewN {w0 W : World} {g : Nat} {f0 : ByteArray} {f1 : List Int} (h : PlIs w0 W g f0 f1) (m : Nat) : PlIs w0 (W.drewN m) g f0 f1 := h
theorem PlIs.drew {w0 W : World} {g : Nat} {f0 : ByteArray} {f1 : List Int} (h : PlIs w0 W g f0 f1) : PlIs w0 W.drew g f0 f1 := h
theorem PlIs.ge {w0 W : World} {g : Nat} {f0 : ByteArray} {f1 : List Int} (h : PlIs w0 W g f0 f1) : w0.heap.size ≤ g := h.2
theorem PlIs.ne_blk {w0 W : World} {g : Nat} {f0 : ByteArray} {f1 : List Int} {a : Nat} {cs : Array Value} {t : TypeId} {fr : Nat × Nat} (h : PlIs w0 W g f0 f1) (hb2 : W.heap[a]? = some (.cells cs t fr)) (ht : t ≠ 94) : g ≠ a := by
 obtain ⟨⟨A, c, hg, _⟩, _⟩ := h
 rintro rfl
 rw [hg] at hb2
 injection hb2 with hb2
 injection hb2 with _ hb2 _
 exact ht hb2.symm
def pl_New.f (s : ByteArray) : Option (ByteArray × List Int) := if s.size ≤ 2000 then some (s, place_sts s s.size) else none
def pl_At.f (s : ByteArray) (L : List Int) (off : Int) : Option (Int × Int × ByteArray) := if s.size ≤ 2000 ∧ L = place_sts s s.size then some (((place_line s L off : Nat) : Int) + 1, place_held s off - rd L (place_line s L off : Nat) + 1, s) else none
def pl_Mark.f (s : ByteArray) (L : List Int) (off : Int) : Option (ByteArray × ByteArray) := if s.size ≤ 2000 ∧ L = place_sts s s.size then some (place_marked (place_linef s L ((place_line s L off : Nat) + 1)) (place_held s off - rd L (place_line s L off : Nat)).toNat, s) else none
theorem pl_New.calls (s f0 : ByteArray) (f1 : List Int) (w0 W : World) (hB : Below w0.heap.size w0 W) (h : pl_New.f s = some (f0, f1)) : Calls Try.prog 19 #[.string s] W fun e w' => ∃ g, e = .returned (.pointer (some ⟨g, 0, none⟩)) ∧ PlIs w0 w' g f0 f1 ∧ Below w0.heap.size w0 w' ∧ Below W.heap.size W w' := by
 unfold pl_New.f at h
 by_cases hs : s.size ≤ 2000
 ·
  rw [if_pos hs] at h
  injection h with h; injection h with h1 h2; subst h1; subst h2
  refine (place_New.whole s W (by omega)).mono ?_
  rintro e w' ⟨g, h1, h2, h3, h4⟩
  exact ⟨g, h1, ⟨h2, by have := hB.size; omega⟩, bP hB h3, h3⟩
 ·
  rw [if_neg hs] at h; exact absurd h (by simp)
theorem pl_At.calls (g : Nat) (f0 : ByteArray) (f1 : List Int) (off r1 r2 : Int) (f2 : ByteArray) (w0 W : World) (hI : PlIs w0 W g f0 f1) (hB : Below w0.heap.size w0 W) (h : pl_At.f f0 f1 off = some (r1, r2, f2)) : Calls Try.prog 20 #[.pointer (some ⟨g, 0, none⟩), .int .i64 off] W fun e w' => e = .returned (.tuple #[.int .i64 r1, .int .i64 r2]) ∧ PlIs w0 w' g f2 f1 ∧ Below w0.heap.size w0 w' ∧ KeepBut W w' g none := by
 unfold pl_At.f at h
 by_cases hs : f0.size ≤ 2000 ∧ f1 = place_sts f0 f0.size
 ·
  rw [if_pos hs] at h
  injection h with h; injection h with h1 h2; injection h2 with h2 h3; subst h1; subst h2; subst h3
  refine (place_At.calls g f0 f1 off W hI.1 (by rw [hs.2]; exact place_good f0 (by omega)) (by rw [hs.2]; exact place_sts_zero f0 f0.size)).mono ?_
  rintro e w' ⟨rfl, hb⟩
  exact ⟨rfl, hI.below hb, bP hB hb, hb.size, fun i hi _ _ => hb.block i hi⟩
 ·
  rw [if_neg hs] at h; exact absurd h (by simp)
theorem pl_Mark.calls (g : Nat) (f0 : ByteArray) (f1 : List Int) (off : Int) (r f2 : ByteArray) (w0 W : World) (hI : PlIs w0 W g f0 f1) (hB : Below w0.heap.size w0 W) (h : pl_Mark.f f0 f1 off = some (r, f2)) : Calls Try.prog 21 #[.pointer (some ⟨g, 0, none⟩), .int .i64 off] W fun e w' => e = .returned (.string r) ∧ PlIs w0 w' g f2 f1 ∧ Below w0.heap.size w0 w' ∧ KeepBut W w' g none := by
 unfold pl_Mark.f at h
 by_cases hs : f0.size ≤ 2000 ∧ f1 = place_sts f0 f0.size
 ·
  rw [if_pos hs] at h
  injection h with h; injection h with h1 h2; subst h1; subst h2
  refine (place_Mark.calls g f0 f1 off W hI.1 (by rw [hs.2]; exact place_good f0 (by omega)) (by rw [hs.2]; exact place_sts_zero f0 f0.size) hs.1).mono ?_
  rintro e w' ⟨rfl, hb⟩
  exact ⟨rfl, hI.below hb, bP hB hb, hb.size, fun i hi _ _ => hb.block i hi⟩
 ·
  rw [if_neg hs] at h; exact absurd h (by simp)
def report_Fault.j0 : Nat → List ByteArray → ByteArray → Bool → Int → Int → Int → Option (ByteArray)
 | 0, _, _, _, _, _, _ => none
 | k + 1, x0, x5, x30, x106000, x106001, x106002 => if x30 = true then (if x5.size + 2 ≤ 9223372036854775807 then ((report_Message.f k x106002).bind fun t108 => (if (x5 ++ (⟨#[58, 32]⟩ : ByteArray)).size + t108.size ≤ 9223372036854775807 then (if ((x5 ++ (⟨#[58, 32]⟩ : ByteArray)) ++ t108).size + 1 ≤ 9223372036854775807 then (some (((x5 ++ (⟨#[58, 32]⟩ : ByteArray)) ++ t108) ++ (⟨#[10]⟩ : ByteArray))) else (none)) else (none))) else (none)) else (if 0 ≤ x106000 then (if x106000 < (x0.length : Int) then ((pl_New.f (rdOf ByteArray.empty x0 x106000)).bind fun bt110 => ((pl_At.f bt110.1 bt110.2 x106001).bind fun bt113 => (if x5.size + 7 ≤ 9223372036854775807 then ((word_Text.f bt113.1).bind fun t116 => (if (x5 ++ (⟨#[44, 32, 108, 105, 110, 101, 32]⟩ : ByteArray)).size + t116.size ≤ 9223372036854775807 then (if ((x5 ++ (⟨#[44, 32, 108, 105, 110, 101, 32]⟩ : ByteArray)) ++ t116).size + 9 ≤ 9223372036854775807 then ((word_Text.f bt113.2.1).bind fun t117 => (if (((x5 ++ (⟨#[44, 32, 108, 105, 110, 101, 32]⟩ : ByteArray)) ++ t116) ++ (⟨#[44, 32, 99, 111, 108, 117, 109, 110, 32]⟩ : ByteArray)).size + t117.size ≤ 9223372036854775807 then (if ((((x5 ++ (⟨#[44, 32, 108, 105, 110, 101, 32]⟩ : ByteArray)) ++ t116) ++ (⟨#[44, 32, 99, 111, 108, 117, 109, 110, 32]⟩ : ByteArray)) ++ t117).size + 2 ≤ 9223372036854775807 then ((report_Message.f k x106002).bind fun t118 => (if (((((x5 ++ (⟨#[44, 32, 108, 105, 110, 101, 32]⟩ : ByteArray)) ++ t116) ++ (⟨#[44, 32, 99, 111, 108, 117, 109, 110, 32]⟩ : ByteArray)) ++ t117) ++ (⟨#[58, 32]⟩ : ByteArray)).size + t118.size ≤ 9223372036854775807 then (if ((((((x5 ++ (⟨#[44, 32, 108, 105, 110, 101, 32]⟩ : ByteArray)) ++ t116) ++ (⟨#[44, 32, 99, 111, 108, 117, 109, 110, 32]⟩ : ByteArray)) ++ t117) ++ (⟨#[58, 32]⟩ : ByteArray)) ++ t118).size + 1 ≤ 9223372036854775807 then ((pl_Mark.f bt113.2.2 bt110.2 x106001).bind fun bt119 => (if (((((((x5 ++ (⟨#[44, 32, 108, 105, 110, 101, 32]⟩ : ByteArray)) ++ t116) ++ (⟨#[44, 32, 99, 111, 108, 117, 109, 110, 32]⟩ : ByteArray)) ++ t117) ++ (⟨#[58, 32]⟩ : ByteArray)) ++ t118) ++ (⟨#[10]⟩ : ByteArray)).size + bt119.1.size ≤ 9223372036854775807 then (if ((((((((x5 ++ (⟨#[44, 32, 108, 105, 110, 101, 32]⟩ : ByteArray)) ++ t116) ++ (⟨#[44, 32, 99, 111, 108, 117, 109, 110, 32]⟩ : ByteArray)) ++ t117) ++ (⟨#[58, 32]⟩ : ByteArray)) ++ t118) ++ (⟨#[10]⟩ : ByteArray)) ++ bt119.1).size + 1 ≤ 9223372036854775807 then (some (((((((((x5 ++ (⟨#[44, 32, 108, 105, 110, 101, 32]⟩ : ByteArray)) ++ t116) ++ (⟨#[44, 32, 99, 111, 108, 117, 109, 110, 32]⟩ : ByteArray)) ++ t117) ++ (⟨#[58, 32]⟩ : ByteArray)) ++ t118) ++ (⟨#[10]⟩ : ByteArray)) ++ bt119.1) ++ (⟨#[10]⟩ : ByteArray))) else (none)) else (none))) else (none)) else (none))) else (none)) else (none))) else (none)) else (none))) else (none)))) else (none)) else (none))
def report_Fault.f (k : Nat) (l0 : List ByteArray) (a1_0 : Int) (a1_1 : Int) (a1_2 : Int) : Option (ByteArray) := if a1_2 = 0 then ((report_Message.f k a1_2).bind fun t106 => (if t106.size + 1 ≤ 9223372036854775807 then (some (t106 ++ (⟨#[10]⟩ : ByteArray))) else (none))) else ((word_Text.f (wrap64 (a1_0 + 1))).bind fun t107 => (if 5 + t107.size ≤ 9223372036854775807 then (if a1_0 < 0 then (report_Fault.j0 k l0 ((⟨#[116, 101, 120, 116, 32]⟩ : ByteArray) ++ t107) true a1_0 a1_1 a1_2) else (report_Fault.j0 k l0 ((⟨#[116, 101, 120, 116, 32]⟩ : ByteArray) ++ t107) (decide (a1_0 ≥ (l0.length : Int))) a1_0 a1_1 a1_2)) else (none)))
theorem report_Fault.mono_l : ∀ k, (∀ y0 y1 y2 y3 y4 y5, LeO (report_Fault.j0 k y0 y1 y2 y3 y4 y5) (report_Fault.j0 (k + 1) y0 y1 y2 y3 y4 y5))
 | 0 => fun _ _ _ _ _ _ r h => by simp [report_Fault.j0] at h
 | k + 1 => by
  have ih0 := report_Fault.mono_l k
  ·
   intro y0 y1 y2 y3 y4 y5
   unfold report_Fault.j0
   repeat' first
   | (with_reducible exact ih0 _ _ _ _ _ _)
   | (with_reducible exact report_Message.mono _ _)
   | (with_reducible exact LeO.refl _)
   | (with_reducible exact LeO.none _)
   | (with_reducible refine LeO.ite ?_ ?_)
   | (with_reducible refine LeO.bind ?_ (fun _ => ?_))
   | exact LeO.none _
   | refine LeO.ite ?_ ?_
   | refine LeO.bind ?_ (fun _ => ?_)
theorem report_Fault.mono : ∀ a0 a1 a2 a3 k, LeO (report_Fault.f k a0 a1 a2 a3) (report_Fault.f (k + 1) a0 a1 a2 a3) := by
 intro a0 a1 a2 a3 k
 have ih0 := report_Fault.mono_l k
 unfold report_Fault.f
 repeat' first
  | (with_reducible exact ih0 _ _ _ _ _ _)
  | (with_reducible exact report_Message.mono _ _)
  | (with_reducible exact LeO.refl _)
  | (with_reducible exact LeO.none _)
  | (with_reducible refine LeO.ite ?_ ?_)
  | (with_reducible refine LeO.bind ?_ (fun _ => ?_))
  | exact LeO.none _
  | refine LeO.ite ?_ ?_
  | refine LeO.bind ?_ (fun _ => ?_)
def report_Fault.T8 : Bool × List (List Nat × List Nat) := (true, [([], []), ([0], [0]), ([], []), ([2], [2]), ([1, 3], [1, 3]), ([4], [4]), ([], []), ([6, 3], [6]), ([5, 7], [5, 7]), ([8], [8]), ([], []), ([10], [10]), ([11, 7], [11]), ([9, 12], [9, 12]), ([13], [13]), ([], []), ([], []), ([16], [16]), ([15, 17, 12], [15, 17]), ([14, 18], [14, 18]), ([19], [19]), ([20, 18, 0, 1, 2, 3, 4, 5, 6, 7, 8, 9, 10, 11, 12, 13, 14, 15, 16, 17, 18, 19, 20], [20])])
def report_Fault.B8 : List Nat := [0, 1, 0, 4, 15, 31, 0, 76, 255, 511, 0, 1024, 3276, 8191, 16383, 0, 0, 65536, 236748, 524287, 1048575, 2097151]
theorem report_Fault.tab8 : rtab .any (opsOf Try.f7 8) = report_Fault.T8 := by kernel_rfl
theorem report_Fault.bits8 : waitsOk report_Fault.T8.2 report_Fault.B8 = true := by kernel_rfl
set_option maxHeartbeats 8000000 in
set_option maxRecDepth 100000 in
theorem report_Fault.calls (k : Nat) (A0 : Option Addr) (c0 : Nat) (l0 : List ByteArray) (a1_0 : Int) (a1_1 : Int) (a1_2 : Int) (r : ByteArray) (w : World) (hr0 : Kd.C Kd.string w A0 l0.length l0) (hc0 : l0.length ≤ c0) (h : report_Fault.f k l0 a1_0 a1_1 a1_2 = some r) :
 Calls Try.prog 7 #[.slice A0 l0.length c0, .agg #[.int .i64 a1_0, .int .i64 a1_1, .int .i64 a1_2]] w fun e w' => e = .returned (.string r) ∧ Below w.heap.size w w' := by
 have hu25 := Try.underlying25
 have HR0 := mK hr0
 have HC0 := mK hc0
 clear hr0 hc0
 have HB := mK (Below.refl w.heap.size w)
 have H : (if a1_2 = 0 then ((report_Message.f k a1_2).bind fun t106 => (if t106.size + 1 ≤ 9223372036854775807 then (some (t106 ++ (⟨#[10]⟩ : ByteArray))) else (none))) else ((word_Text.f (wrap64 (a1_0 + 1))).bind fun t107 => (if 5 + t107.size ≤ 9223372036854775807 then (if a1_0 < 0 then (report_Fault.j0 k l0 ((⟨#[116, 101, 120, 116, 32]⟩ : ByteArray) ++ t107) true a1_0 a1_1 a1_2) else (report_Fault.j0 k l0 ((⟨#[116, 101, 120, 116, 32]⟩ : ByteArray) ++ t107) (decide (a1_0 ≥ (l0.length : Int))) a1_0 a1_1 a1_2)) else (none)))) = some r := h
 clear h
 by_cases c3 : a1_2 = 0
 ·
  rw [if_pos c3] at H
  have c3b0 : (a1_2 == 0) = true := beq_iff_eq.mpr c3
  have c3b1 : (a1_2 != 0) = false := bR c3
  clear c3
  replace H := oB H
  obtain ⟨t106, A40, H⟩ := H
  replace H : (if t106.size + 1 ≤ 9223372036854775807 then (some (t106 ++ (⟨#[10]⟩ : ByteArray))) else (none)) = some r := H
  have A4 := mK A40
  clear A40
  by_cases c5 : t106.size + 1 ≤ 9223372036854775807
  ·
   rw [if_pos c5] at H
   have c5b0 := eq_true c5
   have c5b1 : decide (t106.size + 1 ≤ 9223372036854775807) = true := decide_eq_true c5
   try have c5b2 : (9223372036854775807 < t106.size + 1) = False := eq_false (Nat.not_lt.2 c5)
   try (have c5s2 := c5b2; simp only [ByteArray.size_append, Go.Proofs.Ytmebogkhdbbbbaa.C.ba_lit, List.size_toArray, List.length_cons, List.length_nil, Nat.zero_add, Nat.reduceAdd] at c5s2)
   obtain rfl := Option.some.inj H
   go_enter Try.func7, Try.ntmps7
   go_wp2_with (first | ((with_reducible refine gate_dst (N := 3) rfl ?_); (try (refine gate_guard (by rfl) ?_; dsimp only)); refine box_event ?hg (N := 3) ?hd (cs := #[.int .i64 a1_0, .int .i64 a1_1, .int .i64 a1_2]) (t := 25) ?hr ?_; (case hd => rfl); (case hg => rfl); (case hr => first | (go_simp; done) | (go_simp; rfl)); intro gb105 hg w6 hbox hb; have n0_ := mK (bP (by repeat (first | (with_reducible first | exact HB.out | apply bA | apply bN | apply bD) | exact HB.out)) hb); have n1_ := mK (hbox); have n2_ := mK ((by rw [hg]; exact (bZ (by repeat (first | (with_reducible first | exact HB.out | apply bA | apply bN | apply bD) | exact HB.out))) : w.heap.size ≤ gb105)); have n3_ := mK ((by rw [hg]; exact (bZ (by repeat (first | (with_reducible first | exact HB.out | apply bA | apply bN | apply bD) | exact HB.out))) : w.heap.size ≤ gb105)); clear HB; have HB := n0_; have BK105 := n1_; have GW105 := n2_; have GE105 := n3_; clear n0_ n1_ n2_ n3_; clear hb hbox hg; obtain ⟨hcz7_0, hcz7_1, hcz7_2, hfz7_0, hfz7_1, hfz7_2⟩ := cf3 BK105.out) | ((with_reducible refine gate_callee (f := 9) rfl ?_); refine goesL_ (some 14) rfl rfl Try.func9 (by kernel_rfl) rfl #[.int .i64 a1_2] rfl (by (try simp only [List.map_toArray, List.map_cons, List.map_nil]); first | done | rfl) ?_; (with_reducible refine (report_Message.calls k a1_2 t106 _ A4.out).mono ?_); rintro e w8 ⟨rfl, hb⟩; refine ⟨_, rfl, ?_⟩; have n0_ := mK (kB (g := gb105) (o := .cells #[.int .i64 a1_0, .int .i64 a1_1, .int .i64 a1_2] 25 (0, 0)) (by (with_reducible repeat (first | refine kN ?_ _ | refine kD ?_ | refine kA ?_ _)); exact BK105.out) hb); have n1_ := mK (bP (by repeat (first | (with_reducible first | exact HB.out | apply bA | apply bN | apply bD | refine bS ?_ GE105.out) | exact HB.out)) hb); clear BK105; clear HB; have BK105 := n0_; have HB := n1_; clear n0_ n1_; (try clear hb)))
   go_ret
   exact ⟨by first | rfl | (simp [errW_none, errW_some] <;> rfl) | (simp [*, errW_none, errW_some] <;> rfl), by repeat (first | (with_reducible first | exact HB.out | apply bA | apply bN | apply bD | refine bS ?_ GE105.out) | exact HB.out)⟩
  ·
   rw [if_neg c5] at H
   exact absurd H (by simp)
 ·
  rw [if_neg c3] at H
  have c3b0 : (a1_2 == 0) = false := bQ c3
  have c3b1 : (a1_2 != 0) = true := bne_iff_ne.mpr c3
  replace H := oB H
  obtain ⟨t107, A90, H⟩ := H
  replace H : (if 5 + t107.size ≤ 9223372036854775807 then (if a1_0 < 0 then (report_Fault.j0 k l0 ((⟨#[116, 101, 120, 116, 32]⟩ : ByteArray) ++ t107) true a1_0 a1_1 a1_2) else (report_Fault.j0 k l0 ((⟨#[116, 101, 120, 116, 32]⟩ : ByteArray) ++ t107) (decide (a1_0 ≥ (l0.length : Int))) a1_0 a1_1 a1_2)) else (none)) = some r := H
  have A9 := mK A90
  clear A90
  by_cases c10 : 5 + t107.size ≤ 9223372036854775807
  ·
   rw [if_pos c10] at H
   have c10b0 := eq_true c10
   have c10b1 : decide (5 + t107.size ≤ 9223372036854775807) = true := decide_eq_true c10
   try have c10b2 : (9223372036854775807 < 5 + t107.size) = False := eq_false (Nat.not_lt.2 c10)
   try (have c10s2 := c10b2; simp only [ByteArray.size_append, Go.Proofs.Ytmebogkhdbbbbaa.C.ba_lit, List.size_toArray, List.length_cons, List.length_nil, Nat.zero_add, Nat.reduceAdd] at c10s2)
   have HC11 := mK H
   clear H
   go_enter Try.func7, Try.ntmps7
   go_upto_region 4 with (first | ((with_reducible refine gate_dst (N := 3) rfl ?_); (try (refine gate_guard (by rfl) ?_; dsimp only)); refine box_event ?hg (N := 3) ?hd (cs := #[.int .i64 a1_0, .int .i64 a1_1, .int .i64 a1_2]) (t := 25) ?hr ?_; (case hd => rfl); (case hg => rfl); (case hr => first | (go_simp; done) | (go_simp; rfl)); intro gb105 hg w12 hbox hb; have n0_ := mK (bP (by repeat (first | (with_reducible first | exact HB.out | apply bA | apply bN | apply bD) | exact HB.out)) hb); have n1_ := mK (hbox); have n2_ := mK ((by rw [hg]; exact (bZ (by repeat (first | (with_reducible first | exact HB.out | apply bA | apply bN | apply bD) | exact HB.out))) : w.heap.size ≤ gb105)); have n3_ := mK ((by rw [hg]; exact (bZ (by repeat (first | (with_reducible first | exact HB.out | apply bA | apply bN | apply bD) | exact HB.out))) : w.heap.size ≤ gb105)); clear HB; have HB := n0_; have BK105 := n1_; have GW105 := n2_; have GE105 := n3_; clear n0_ n1_ n2_ n3_; clear hb hbox hg; obtain ⟨hcz13_0, hcz13_1, hcz13_2, hfz13_0, hfz13_1, hfz13_2⟩ := cf3 BK105.out) | ((with_reducible refine gate_callee (f := 18) rfl ?_); refine goesL_ (some 19) rfl rfl Try.func18 (by kernel_rfl) rfl #[.int .i64 (wrap64 (a1_0 + 1))] rfl (by (try simp only [List.map_toArray, List.map_cons, List.map_nil]); first | done | rfl) ?_; (with_reducible refine (word_Text.calls (wrap64 (a1_0 + 1)) t107 _ A9.out).mono ?_); rintro e w14 ⟨rfl, hb⟩; refine ⟨_, rfl, ?_⟩; have n0_ := mK (kB (g := gb105) (o := .cells #[.int .i64 a1_0, .int .i64 a1_1, .int .i64 a1_2] 25 (0, 0)) (by (with_reducible repeat (first | refine kN ?_ _ | refine kD ?_ | refine kA ?_ _)); exact BK105.out) hb); have n1_ := mK (bP (by repeat (first | (with_reducible first | exact HB.out | apply bA | apply bN | apply bD | refine bS ?_ GE105.out) | exact HB.out)) hb); clear BK105; clear HB; have BK105 := n0_; have HB := n1_; clear n0_ n1_; (try clear hb)))
   (try simp only [Act.put, List.setIfInBounds_toArray, List.set_cons_zero, List.set_cons_succ])
   go_cut [30] (fun v30 wc => ∃ (kq : Nat) (x30_10 : Bool), v30 = .bool x30_10 ∧ Aside0 (report_Fault.j0 kq l0 ((⟨#[116, 101, 120, 116, 32]⟩ : ByteArray) ++ t107) x30_10 a1_0 a1_1 a1_2 = some r) ∧ Aside0 (kq ≤ k) ∧ Aside0 (wc.heap[gb105]? = some (.cells #[.int .i64 a1_0, .int .i64 a1_1, .int .i64 a1_2] 25 (0, 0))) ∧ Aside0 (Below w.heap.size w wc))
   case first =>
    have H := HC11.out
    clear HC11
    by_cases c15 : a1_0 < 0
    ·
     rw [if_pos c15] at H
     have c15b0 : decide (a1_0 < 0) = true := decide_eq_true c15
     clear c15
     (first | rw [c15b0] | (simp only [i64_w, i32_w]; rw [c15b0]) | skip)
     have H' := mK H
     clear H
     obtain ⟨hcz16_0, hcz16_1, hcz16_2, hfz16_0, hfz16_1, hfz16_2⟩ := cf3 BK105.out
     go_wp2
     go_meet
     case rel => exact ⟨_, (true), (by first | rfl | (simp; done) | (simp [*]; done)), H', ⟨by first | omega | exact Nat.le_refl _⟩, ⟨by (with_reducible repeat (first | refine kN ?_ _ | refine kD ?_ | refine kA ?_ _)); exact BK105.out⟩, ⟨by repeat (first | (with_reducible first | exact HB.out | apply bA | apply bN | apply bD | refine bS ?_ GE105.out) | exact HB.out)⟩⟩
    ·
     rw [if_neg c15] at H
     have c15b0 : decide (a1_0 < 0) = false := decide_eq_false c15
     clear c15
     (first | rw [c15b0] | (simp only [i64_w, i32_w]; rw [c15b0]) | skip)
     have H' := mK H
     clear H
     obtain ⟨hcz17_0, hcz17_1, hcz17_2, hfz17_0, hfz17_1, hfz17_2⟩ := cf3 BK105.out
     go_wp2
     go_meet
     case rel => exact ⟨_, (decide (a1_0 ≥ (l0.length : Int))), (by first | rfl | (simp; done) | (simp [*]; done)), H', ⟨by first | omega | exact Nat.le_refl _⟩, ⟨by (with_reducible repeat (first | refine kN ?_ _ | refine kD ?_ | refine kA ?_ _)); exact BK105.out⟩, ⟨by repeat (first | (with_reducible first | exact HB.out | apply bA | apply bN | apply bD | refine bS ?_ GE105.out) | exact HB.out)⟩⟩
   case rest =>
    clear HC11
    (try clear c3); (try clear c3b0); (try clear c3b1); (try clear c10); (try clear c10b0); (try clear c10b1); (try clear c10b2); (try clear hcz13_0); (try clear hcz13_1); (try clear hcz13_2); (try clear hfz13_0); (try clear hfz13_1); (try clear hfz13_2)
    obtain ⟨kq, x30_10, rfl, HA, HJ10, BK105, HB⟩ := hcut
    cases kq with
    | zero => exact absurd HA.out (by simp [report_Fault.j0])
    | succ kj10 =>
     have H := HA.out
     clear HA
     simp only [report_Fault.j0] at H
     by_cases c18 : x30_10 = true
     ·
      subst c18
      have H1 : (if ((⟨#[116, 101, 120, 116, 32]⟩ : ByteArray) ++ t107).size + 2 ≤ 9223372036854775807 then ((report_Message.f kj10 a1_2).bind fun t108 => (if (((⟨#[116, 101, 120, 116, 32]⟩ : ByteArray) ++ t107) ++ (⟨#[58, 32]⟩ : ByteArray)).size + t108.size ≤ 9223372036854775807 then (if ((((⟨#[116, 101, 120, 116, 32]⟩ : ByteArray) ++ t107) ++ (⟨#[58, 32]⟩ : ByteArray)) ++ t108).size + 1 ≤ 9223372036854775807 then (some (((((⟨#[116, 101, 120, 116, 32]⟩ : ByteArray) ++ t107) ++ (⟨#[58, 32]⟩ : ByteArray)) ++ t108) ++ (⟨#[10]⟩ : ByteArray))) else (none)) else (none))) else (none)) = some r := by rw [if_pos rfl] at H; exact H
      clear H
      have H := H1
      clear H1
      by_cases c19 : ((⟨#[116, 101, 120, 116, 32]⟩ : ByteArray) ++ t107).size + 2 ≤ 9223372036854775807
      ·
       rw [if_pos c19] at H
       have c19b0 := eq_true c19
       have c19b1 : decide (((⟨#[116, 101, 120, 116, 32]⟩ : ByteArray) ++ t107).size + 2 ≤ 9223372036854775807) = true := decide_eq_true c19
       try have c19b2 : (9223372036854775807 < ((⟨#[116, 101, 120, 116, 32]⟩ : ByteArray) ++ t107).size + 2) = False := eq_false (Nat.not_lt.2 c19)
       try (have c19s2 := c19b2; simp only [ByteArray.size_append, Go.Proofs.Ytmebogkhdbbbbaa.C.ba_lit, List.size_toArray, List.length_cons, List.length_nil, Nat.zero_add, Nat.reduceAdd] at c19s2)
       replace H := oB H
       obtain ⟨t108, A200, H⟩ := H
       replace H : (if (((⟨#[116, 101, 120, 116, 32]⟩ : ByteArray) ++ t107) ++ (⟨#[58, 32]⟩ : ByteArray)).size + t108.size ≤ 9223372036854775807 then (if ((((⟨#[116, 101, 120, 116, 32]⟩ : ByteArray) ++ t107) ++ (⟨#[58, 32]⟩ : ByteArray)) ++ t108).size + 1 ≤ 9223372036854775807 then (some (((((⟨#[116, 101, 120, 116, 32]⟩ : ByteArray) ++ t107) ++ (⟨#[58, 32]⟩ : ByteArray)) ++ t108) ++ (⟨#[10]⟩ : ByteArray))) else (none)) else (none)) = some r := H
       have A20 := mK A200
       clear A200
       by_cases c21 : (((⟨#[116, 101, 120, 116, 32]⟩ : ByteArray) ++ t107) ++ (⟨#[58, 32]⟩ : ByteArray)).size + t108.size ≤ 9223372036854775807
       ·
        rw [if_pos c21] at H
        have c21b0 := eq_true c21
        have c21b1 : decide ((((⟨#[116, 101, 120, 116, 32]⟩ : ByteArray) ++ t107) ++ (⟨#[58, 32]⟩ : ByteArray)).size + t108.size ≤ 9223372036854775807) = true := decide_eq_true c21
        try have c21b2 : (9223372036854775807 < (((⟨#[116, 101, 120, 116, 32]⟩ : ByteArray) ++ t107) ++ (⟨#[58, 32]⟩ : ByteArray)).size + t108.size) = False := eq_false (Nat.not_lt.2 c21)
        try (have c21s2 := c21b2; simp only [ByteArray.size_append, Go.Proofs.Ytmebogkhdbbbbaa.C.ba_lit, List.size_toArray, List.length_cons, List.length_nil, Nat.zero_add, Nat.reduceAdd] at c21s2)
        by_cases c22 : ((((⟨#[116, 101, 120, 116, 32]⟩ : ByteArray) ++ t107) ++ (⟨#[58, 32]⟩ : ByteArray)) ++ t108).size + 1 ≤ 9223372036854775807
        ·
         rw [if_pos c22] at H
         have c22b0 := eq_true c22
         have c22b1 : decide (((((⟨#[116, 101, 120, 116, 32]⟩ : ByteArray) ++ t107) ++ (⟨#[58, 32]⟩ : ByteArray)) ++ t108).size + 1 ≤ 9223372036854775807) = true := decide_eq_true c22
         try have c22b2 : (9223372036854775807 < ((((⟨#[116, 101, 120, 116, 32]⟩ : ByteArray) ++ t107) ++ (⟨#[58, 32]⟩ : ByteArray)) ++ t108).size + 1) = False := eq_false (Nat.not_lt.2 c22)
         try (have c22s2 := c22b2; simp only [ByteArray.size_append, Go.Proofs.Ytmebogkhdbbbbaa.C.ba_lit, List.size_toArray, List.length_cons, List.length_nil, Nat.zero_add, Nat.reduceAdd] at c22s2)
         obtain rfl := Option.some.inj H
         obtain ⟨hcz23_0, hcz23_1, hcz23_2, hfz23_0, hfz23_1, hfz23_2⟩ := cf3 BK105.out
         go_wp2_with (first | ((with_reducible refine gate_callee (f := 9) rfl ?_); refine goesL_ (some 35) rfl rfl Try.func9 (by kernel_rfl) rfl #[.int .i64 a1_2] rfl (by (try simp only [List.map_toArray, List.map_cons, List.map_nil]); first | done | rfl) ?_; (with_reducible refine (report_Message.calls kj10 a1_2 t108 _ A20.out).mono ?_); rintro e w24 ⟨rfl, hb⟩; refine ⟨_, rfl, ?_⟩; have n0_ := mK (kB (g := gb105) (o := .cells #[.int .i64 a1_0, .int .i64 a1_1, .int .i64 a1_2] 25 (0, 0)) (by (with_reducible repeat (first | refine kN ?_ _ | refine kD ?_ | refine kA ?_ _)); exact BK105.out) hb); have n1_ := mK (bP (by repeat (first | (with_reducible first | exact HB.out | apply bA | apply bN | apply bD | refine bS ?_ GE105.out) | exact HB.out)) hb); clear BK105; clear HB; have BK105 := n0_; have HB := n1_; clear n0_ n1_; (try clear hb)))
         go_ret
         exact ⟨by first | rfl | (simp [errW_none, errW_some] <;> rfl) | (simp [*, errW_none, errW_some] <;> rfl), by repeat (first | (with_reducible first | exact HB.out | apply bA | apply bN | apply bD | refine bS ?_ GE105.out) | exact HB.out)⟩
        ·
         rw [if_neg c22] at H
         exact absurd H (by simp)
       ·
        rw [if_neg c21] at H
        exact absurd H (by simp)
      ·
       rw [if_neg c19] at H
       exact absurd H (by simp)
     ·
      replace c18 := Bool.eq_false_iff.mpr c18
      subst c18
      have H1 : (if 0 ≤ a1_0 then (if a1_0 < (l0.length : Int) then ((pl_New.f (rdOf ByteArray.empty l0 a1_0)).bind fun bt110 => ((pl_At.f bt110.1 bt110.2 a1_1).bind fun bt113 => (if ((⟨#[116, 101, 120, 116, 32]⟩ : ByteArray) ++ t107).size + 7 ≤ 9223372036854775807 then ((word_Text.f bt113.1).bind fun t116 => (if (((⟨#[116, 101, 120, 116, 32]⟩ : ByteArray) ++ t107) ++ (⟨#[44, 32, 108, 105, 110, 101, 32]⟩ : ByteArray)).size + t116.size ≤ 9223372036854775807 then (if ((((⟨#[116, 101, 120, 116, 32]⟩ : ByteArray) ++ t107) ++ (⟨#[44, 32, 108, 105, 110, 101, 32]⟩ : ByteArray)) ++ t116).size + 9 ≤ 9223372036854775807 then ((word_Text.f bt113.2.1).bind fun t117 => (if (((((⟨#[116, 101, 120, 116, 32]⟩ : ByteArray) ++ t107) ++ (⟨#[44, 32, 108, 105, 110, 101, 32]⟩ : ByteArray)) ++ t116) ++ (⟨#[44, 32, 99, 111, 108, 117, 109, 110, 32]⟩ : ByteArray)).size + t117.size ≤ 9223372036854775807 then (if ((((((⟨#[116, 101, 120, 116, 32]⟩ : ByteArray) ++ t107) ++ (⟨#[44, 32, 108, 105, 110, 101, 32]⟩ : ByteArray)) ++ t116) ++ (⟨#[44, 32, 99, 111, 108, 117, 109, 110, 32]⟩ : ByteArray)) ++ t117).size + 2 ≤ 9223372036854775807 then ((report_Message.f kj10 a1_2).bind fun t118 => (if (((((((⟨#[116, 101, 120, 116, 32]⟩ : ByteArray) ++ t107) ++ (⟨#[44, 32, 108, 105, 110, 101, 32]⟩ : ByteArray)) ++ t116) ++ (⟨#[44, 32, 99, 111, 108, 117, 109, 110, 32]⟩ : ByteArray)) ++ t117) ++ (⟨#[58, 32]⟩ : ByteArray)).size + t118.size ≤ 9223372036854775807 then (if ((((((((⟨#[116, 101, 120, 116, 32]⟩ : ByteArray) ++ t107) ++ (⟨#[44, 32, 108, 105, 110, 101, 32]⟩ : ByteArray)) ++ t116) ++ (⟨#[44, 32, 99, 111, 108, 117, 109, 110, 32]⟩ : ByteArray)) ++ t117) ++ (⟨#[58, 32]⟩ : ByteArray)) ++ t118).size + 1 ≤ 9223372036854775807 then ((pl_Mark.f bt113.2.2 bt110.2 a1_1).bind fun bt119 => (if (((((((((⟨#[116, 101, 120, 116, 32]⟩ : ByteArray) ++ t107) ++ (⟨#[44, 32, 108, 105, 110, 101, 32]⟩ : ByteArray)) ++ t116) ++ (⟨#[44, 32, 99, 111, 108, 117, 109, 110, 32]⟩ : ByteArray)) ++ t117) ++ (⟨#[58, 32]⟩ : ByteArray)) ++ t118) ++ (⟨#[10]⟩ : ByteArray)).size + bt119.1.size ≤ 9223372036854775807 then (if ((((((((((⟨#[116, 101, 120, 116, 32]⟩ : ByteArray) ++ t107) ++ (⟨#[44, 32, 108, 105, 110, 101, 32]⟩ : ByteArray)) ++ t116) ++ (⟨#[44, 32, 99, 111, 108, 117, 109, 110, 32]⟩ : ByteArray)) ++ t117) ++ (⟨#[58, 32]⟩ : ByteArray)) ++ t118) ++ (⟨#[10]⟩ : ByteArray)) ++ bt119.1).size + 1 ≤ 9223372036854775807 then (some (((((((((((⟨#[116, 101, 120, 116, 32]⟩ : ByteArray) ++ t107) ++ (⟨#[44, 32, 108, 105, 110, 101, 32]⟩ : ByteArray)) ++ t116) ++ (⟨#[44, 32, 99, 111, 108, 117, 109, 110, 32]⟩ : ByteArray)) ++ t117) ++ (⟨#[58, 32]⟩ : ByteArray)) ++ t118) ++ (⟨#[10]⟩ : ByteArray)) ++ bt119.1) ++ (⟨#[10]⟩ : ByteArray))) else (none)) else (none))) else (none)) else (none))) else (none)) else (none))) else (none)) else (none))) else (none)))) else (none)) else (none)) = some r := by rw [if_neg (show ¬ (false = true) by decide)] at H; exact H
      clear H
      have H := H1
      clear H1
      by_cases c25 : 0 ≤ a1_0
      ·
       rw [if_pos c25] at H
       have c25b0 : decide (0 ≤ a1_0) = true := decide_eq_true c25
       clear c25
       by_cases c26 : a1_0 < (l0.length : Int)
       ·
        rw [if_pos c26] at H
        have c26b0 : decide (a1_0 < (l0.length : Int)) = true := decide_eq_true c26
        clear c26
        replace H := oB H
        obtain ⟨⟨t110, t111⟩, A270, H⟩ := H
        replace H : ((pl_At.f t110 t111 a1_1).bind fun bt113 => (if ((⟨#[116, 101, 120, 116, 32]⟩ : ByteArray) ++ t107).size + 7 ≤ 9223372036854775807 then ((word_Text.f bt113.1).bind fun t116 => (if (((⟨#[116, 101, 120, 116, 32]⟩ : ByteArray) ++ t107) ++ (⟨#[44, 32, 108, 105, 110, 101, 32]⟩ : ByteArray)).size + t116.size ≤ 9223372036854775807 then (if ((((⟨#[116, 101, 120, 116, 32]⟩ : ByteArray) ++ t107) ++ (⟨#[44, 32, 108, 105, 110, 101, 32]⟩ : ByteArray)) ++ t116).size + 9 ≤ 9223372036854775807 then ((word_Text.f bt113.2.1).bind fun t117 => (if (((((⟨#[116, 101, 120, 116, 32]⟩ : ByteArray) ++ t107) ++ (⟨#[44, 32, 108, 105, 110, 101, 32]⟩ : ByteArray)) ++ t116) ++ (⟨#[44, 32, 99, 111, 108, 117, 109, 110, 32]⟩ : ByteArray)).size + t117.size ≤ 9223372036854775807 then (if ((((((⟨#[116, 101, 120, 116, 32]⟩ : ByteArray) ++ t107) ++ (⟨#[44, 32, 108, 105, 110, 101, 32]⟩ : ByteArray)) ++ t116) ++ (⟨#[44, 32, 99, 111, 108, 117, 109, 110, 32]⟩ : ByteArray)) ++ t117).size + 2 ≤ 9223372036854775807 then ((report_Message.f kj10 a1_2).bind fun t118 => (if (((((((⟨#[116, 101, 120, 116, 32]⟩ : ByteArray) ++ t107) ++ (⟨#[44, 32, 108, 105, 110, 101, 32]⟩ : ByteArray)) ++ t116) ++ (⟨#[44, 32, 99, 111, 108, 117, 109, 110, 32]⟩ : ByteArray)) ++ t117) ++ (⟨#[58, 32]⟩ : ByteArray)).size + t118.size ≤ 9223372036854775807 then (if ((((((((⟨#[116, 101, 120, 116, 32]⟩ : ByteArray) ++ t107) ++ (⟨#[44, 32, 108, 105, 110, 101, 32]⟩ : ByteArray)) ++ t116) ++ (⟨#[44, 32, 99, 111, 108, 117, 109, 110, 32]⟩ : ByteArray)) ++ t117) ++ (⟨#[58, 32]⟩ : ByteArray)) ++ t118).size + 1 ≤ 9223372036854775807 then ((pl_Mark.f bt113.2.2 t111 a1_1).bind fun bt119 => (if (((((((((⟨#[116, 101, 120, 116, 32]⟩ : ByteArray) ++ t107) ++ (⟨#[44, 32, 108, 105, 110, 101, 32]⟩ : ByteArray)) ++ t116) ++ (⟨#[44, 32, 99, 111, 108, 117, 109, 110, 32]⟩ : ByteArray)) ++ t117) ++ (⟨#[58, 32]⟩ : ByteArray)) ++ t118) ++ (⟨#[10]⟩ : ByteArray)).size + bt119.1.size ≤ 9223372036854775807 then (if ((((((((((⟨#[116, 101, 120, 116, 32]⟩ : ByteArray) ++ t107) ++ (⟨#[44, 32, 108, 105, 110, 101, 32]⟩ : ByteArray)) ++ t116) ++ (⟨#[44, 32, 99, 111, 108, 117, 109, 110, 32]⟩ : ByteArray)) ++ t117) ++ (⟨#[58, 32]⟩ : ByteArray)) ++ t118) ++ (⟨#[10]⟩ : ByteArray)) ++ bt119.1).size + 1 ≤ 9223372036854775807 then (some (((((((((((⟨#[116, 101, 120, 116, 32]⟩ : ByteArray) ++ t107) ++ (⟨#[44, 32, 108, 105, 110, 101, 32]⟩ : ByteArray)) ++ t116) ++ (⟨#[44, 32, 99, 111, 108, 117, 109, 110, 32]⟩ : ByteArray)) ++ t117) ++ (⟨#[58, 32]⟩ : ByteArray)) ++ t118) ++ (⟨#[10]⟩ : ByteArray)) ++ bt119.1) ++ (⟨#[10]⟩ : ByteArray))) else (none)) else (none))) else (none)) else (none))) else (none)) else (none))) else (none)) else (none))) else (none))) = some r := H
        have A27 := mK A270
        clear A270
        replace H := oB H
        obtain ⟨⟨t113, t114, t115⟩, A280, H⟩ := H
        replace H : (if ((⟨#[116, 101, 120, 116, 32]⟩ : ByteArray) ++ t107).size + 7 ≤ 9223372036854775807 then ((word_Text.f t113).bind fun t116 => (if (((⟨#[116, 101, 120, 116, 32]⟩ : ByteArray) ++ t107) ++ (⟨#[44, 32, 108, 105, 110, 101, 32]⟩ : ByteArray)).size + t116.size ≤ 9223372036854775807 then (if ((((⟨#[116, 101, 120, 116, 32]⟩ : ByteArray) ++ t107) ++ (⟨#[44, 32, 108, 105, 110, 101, 32]⟩ : ByteArray)) ++ t116).size + 9 ≤ 9223372036854775807 then ((word_Text.f t114).bind fun t117 => (if (((((⟨#[116, 101, 120, 116, 32]⟩ : ByteArray) ++ t107) ++ (⟨#[44, 32, 108, 105, 110, 101, 32]⟩ : ByteArray)) ++ t116) ++ (⟨#[44, 32, 99, 111, 108, 117, 109, 110, 32]⟩ : ByteArray)).size + t117.size ≤ 9223372036854775807 then (if ((((((⟨#[116, 101, 120, 116, 32]⟩ : ByteArray) ++ t107) ++ (⟨#[44, 32, 108, 105, 110, 101, 32]⟩ : ByteArray)) ++ t116) ++ (⟨#[44, 32, 99, 111, 108, 117, 109, 110, 32]⟩ : ByteArray)) ++ t117).size + 2 ≤ 9223372036854775807 then ((report_Message.f kj10 a1_2).bind fun t118 => (if (((((((⟨#[116, 101, 120, 116, 32]⟩ : ByteArray) ++ t107) ++ (⟨#[44, 32, 108, 105, 110, 101, 32]⟩ : ByteArray)) ++ t116) ++ (⟨#[44, 32, 99, 111, 108, 117, 109, 110, 32]⟩ : ByteArray)) ++ t117) ++ (⟨#[58, 32]⟩ : ByteArray)).size + t118.size ≤ 9223372036854775807 then (if ((((((((⟨#[116, 101, 120, 116, 32]⟩ : ByteArray) ++ t107) ++ (⟨#[44, 32, 108, 105, 110, 101, 32]⟩ : ByteArray)) ++ t116) ++ (⟨#[44, 32, 99, 111, 108, 117, 109, 110, 32]⟩ : ByteArray)) ++ t117) ++ (⟨#[58, 32]⟩ : ByteArray)) ++ t118).size + 1 ≤ 9223372036854775807 then ((pl_Mark.f t115 t111 a1_1).bind fun bt119 => (if (((((((((⟨#[116, 101, 120, 116, 32]⟩ : ByteArray) ++ t107) ++ (⟨#[44, 32, 108, 105, 110, 101, 32]⟩ : ByteArray)) ++ t116) ++ (⟨#[44, 32, 99, 111, 108, 117, 109, 110, 32]⟩ : ByteArray)) ++ t117) ++ (⟨#[58, 32]⟩ : ByteArray)) ++ t118) ++ (⟨#[10]⟩ : ByteArray)).size + bt119.1.size ≤ 9223372036854775807 then (if ((((((((((⟨#[116, 101, 120, 116, 32]⟩ : ByteArray) ++ t107) ++ (⟨#[44, 32, 108, 105, 110, 101, 32]⟩ : ByteArray)) ++ t116) ++ (⟨#[44, 32, 99, 111, 108, 117, 109, 110, 32]⟩ : ByteArray)) ++ t117) ++ (⟨#[58, 32]⟩ : ByteArray)) ++ t118) ++ (⟨#[10]⟩ : ByteArray)) ++ bt119.1).size + 1 ≤ 9223372036854775807 then (some (((((((((((⟨#[116, 101, 120, 116, 32]⟩ : ByteArray) ++ t107) ++ (⟨#[44, 32, 108, 105, 110, 101, 32]⟩ : ByteArray)) ++ t116) ++ (⟨#[44, 32, 99, 111, 108, 117, 109, 110, 32]⟩ : ByteArray)) ++ t117) ++ (⟨#[58, 32]⟩ : ByteArray)) ++ t118) ++ (⟨#[10]⟩ : ByteArray)) ++ bt119.1) ++ (⟨#[10]⟩ : ByteArray))) else (none)) else (none))) else (none)) else (none))) else (none)) else (none))) else (none)) else (none))) else (none)) = some r := H
        have A28 := mK A280
        clear A280
        by_cases c29 : ((⟨#[116, 101, 120, 116, 32]⟩ : ByteArray) ++ t107).size + 7 ≤ 9223372036854775807
        ·
         rw [if_pos c29] at H
         have c29b0 := eq_true c29
         have c29b1 : decide (((⟨#[116, 101, 120, 116, 32]⟩ : ByteArray) ++ t107).size + 7 ≤ 9223372036854775807) = true := decide_eq_true c29
         try have c29b2 : (9223372036854775807 < ((⟨#[116, 101, 120, 116, 32]⟩ : ByteArray) ++ t107).size + 7) = False := eq_false (Nat.not_lt.2 c29)
         try (have c29s2 := c29b2; simp only [ByteArray.size_append, Go.Proofs.Ytmebogkhdbbbbaa.C.ba_lit, List.size_toArray, List.length_cons, List.length_nil, Nat.zero_add, Nat.reduceAdd] at c29s2)
         replace H := oB H
         obtain ⟨t116, A300, H⟩ := H
         replace H : (if (((⟨#[116, 101, 120, 116, 32]⟩ : ByteArray) ++ t107) ++ (⟨#[44, 32, 108, 105, 110, 101, 32]⟩ : ByteArray)).size + t116.size ≤ 9223372036854775807 then (if ((((⟨#[116, 101, 120, 116, 32]⟩ : ByteArray) ++ t107) ++ (⟨#[44, 32, 108, 105, 110, 101, 32]⟩ : ByteArray)) ++ t116).size + 9 ≤ 9223372036854775807 then ((word_Text.f t114).bind fun t117 => (if (((((⟨#[116, 101, 120, 116, 32]⟩ : ByteArray) ++ t107) ++ (⟨#[44, 32, 108, 105, 110, 101, 32]⟩ : ByteArray)) ++ t116) ++ (⟨#[44, 32, 99, 111, 108, 117, 109, 110, 32]⟩ : ByteArray)).size + t117.size ≤ 9223372036854775807 then (if ((((((⟨#[116, 101, 120, 116, 32]⟩ : ByteArray) ++ t107) ++ (⟨#[44, 32, 108, 105, 110, 101, 32]⟩ : ByteArray)) ++ t116) ++ (⟨#[44, 32, 99, 111, 108, 117, 109, 110, 32]⟩ : ByteArray)) ++ t117).size + 2 ≤ 9223372036854775807 then ((report_Message.f kj10 a1_2).bind fun t118 => (if (((((((⟨#[116, 101, 120, 116, 32]⟩ : ByteArray) ++ t107) ++ (⟨#[44, 32, 108, 105, 110, 101, 32]⟩ : ByteArray)) ++ t116) ++ (⟨#[44, 32, 99, 111, 108, 117, 109, 110, 32]⟩ : ByteArray)) ++ t117) ++ (⟨#[58, 32]⟩ : ByteArray)).size + t118.size ≤ 9223372036854775807 then (if ((((((((⟨#[116, 101, 120, 116, 32]⟩ : ByteArray) ++ t107) ++ (⟨#[44, 32, 108, 105, 110, 101, 32]⟩ : ByteArray)) ++ t116) ++ (⟨#[44, 32, 99, 111, 108, 117, 109, 110, 32]⟩ : ByteArray)) ++ t117) ++ (⟨#[58, 32]⟩ : ByteArray)) ++ t118).size + 1 ≤ 9223372036854775807 then ((pl_Mark.f t115 t111 a1_1).bind fun bt119 => (if (((((((((⟨#[116, 101, 120, 116, 32]⟩ : ByteArray) ++ t107) ++ (⟨#[44, 32, 108, 105, 110, 101, 32]⟩ : ByteArray)) ++ t116) ++ (⟨#[44, 32, 99, 111, 108, 117, 109, 110, 32]⟩ : ByteArray)) ++ t117) ++ (⟨#[58, 32]⟩ : ByteArray)) ++ t118) ++ (⟨#[10]⟩ : ByteArray)).size + bt119.1.size ≤ 9223372036854775807 then (if ((((((((((⟨#[116, 101, 120, 116, 32]⟩ : ByteArray) ++ t107) ++ (⟨#[44, 32, 108, 105, 110, 101, 32]⟩ : ByteArray)) ++ t116) ++ (⟨#[44, 32, 99, 111, 108, 117, 109, 110, 32]⟩ : ByteArray)) ++ t117) ++ (⟨#[58, 32]⟩ : ByteArray)) ++ t118) ++ (⟨#[10]⟩ : ByteArray)) ++ bt119.1).size + 1 ≤ 9223372036854775807 then (some (((((((((((⟨#[116, 101, 120, 116, 32]⟩ : ByteArray) ++ t107) ++ (⟨#[44, 32, 108, 105, 110, 101, 32]⟩ : ByteArray)) ++ t116) ++ (⟨#[44, 32, 99, 111, 108, 117, 109, 110, 32]⟩ : ByteArray)) ++ t117) ++ (⟨#[58, 32]⟩ : ByteArray)) ++ t118) ++ (⟨#[10]⟩ : ByteArray)) ++ bt119.1) ++ (⟨#[10]⟩ : ByteArray))) else (none)) else (none))) else (none)) else (none))) else (none)) else (none))) else (none)) else (none)) = some r := H
         have A30 := mK A300
         clear A300
         by_cases c31 : (((⟨#[116, 101, 120, 116, 32]⟩ : ByteArray) ++ t107) ++ (⟨#[44, 32, 108, 105, 110, 101, 32]⟩ : ByteArray)).size + t116.size ≤ 9223372036854775807
         ·
          rw [if_pos c31] at H
          have c31b0 := eq_true c31
          have c31b1 : decide ((((⟨#[116, 101, 120, 116, 32]⟩ : ByteArray) ++ t107) ++ (⟨#[44, 32, 108, 105, 110, 101, 32]⟩ : ByteArray)).size + t116.size ≤ 9223372036854775807) = true := decide_eq_true c31
          try have c31b2 : (9223372036854775807 < (((⟨#[116, 101, 120, 116, 32]⟩ : ByteArray) ++ t107) ++ (⟨#[44, 32, 108, 105, 110, 101, 32]⟩ : ByteArray)).size + t116.size) = False := eq_false (Nat.not_lt.2 c31)
          try (have c31s2 := c31b2; simp only [ByteArray.size_append, Go.Proofs.Ytmebogkhdbbbbaa.C.ba_lit, List.size_toArray, List.length_cons, List.length_nil, Nat.zero_add, Nat.reduceAdd] at c31s2)
          by_cases c32 : ((((⟨#[116, 101, 120, 116, 32]⟩ : ByteArray) ++ t107) ++ (⟨#[44, 32, 108, 105, 110, 101, 32]⟩ : ByteArray)) ++ t116).size + 9 ≤ 9223372036854775807
          ·
           rw [if_pos c32] at H
           have c32b0 := eq_true c32
           have c32b1 : decide (((((⟨#[116, 101, 120, 116, 32]⟩ : ByteArray) ++ t107) ++ (⟨#[44, 32, 108, 105, 110, 101, 32]⟩ : ByteArray)) ++ t116).size + 9 ≤ 9223372036854775807) = true := decide_eq_true c32
           try have c32b2 : (9223372036854775807 < ((((⟨#[116, 101, 120, 116, 32]⟩ : ByteArray) ++ t107) ++ (⟨#[44, 32, 108, 105, 110, 101, 32]⟩ : ByteArray)) ++ t116).size + 9) = False := eq_false (Nat.not_lt.2 c32)
           try (have c32s2 := c32b2; simp only [ByteArray.size_append, Go.Proofs.Ytmebogkhdbbbbaa.C.ba_lit, List.size_toArray, List.length_cons, List.length_nil, Nat.zero_add, Nat.reduceAdd] at c32s2)
           replace H := oB H
           obtain ⟨t117, A330, H⟩ := H
           replace H : (if (((((⟨#[116, 101, 120, 116, 32]⟩ : ByteArray) ++ t107) ++ (⟨#[44, 32, 108, 105, 110, 101, 32]⟩ : ByteArray)) ++ t116) ++ (⟨#[44, 32, 99, 111, 108, 117, 109, 110, 32]⟩ : ByteArray)).size + t117.size ≤ 9223372036854775807 then (if ((((((⟨#[116, 101, 120, 116, 32]⟩ : ByteArray) ++ t107) ++ (⟨#[44, 32, 108, 105, 110, 101, 32]⟩ : ByteArray)) ++ t116) ++ (⟨#[44, 32, 99, 111, 108, 117, 109, 110, 32]⟩ : ByteArray)) ++ t117).size + 2 ≤ 9223372036854775807 then ((report_Message.f kj10 a1_2).bind fun t118 => (if (((((((⟨#[116, 101, 120, 116, 32]⟩ : ByteArray) ++ t107) ++ (⟨#[44, 32, 108, 105, 110, 101, 32]⟩ : ByteArray)) ++ t116) ++ (⟨#[44, 32, 99, 111, 108, 117, 109, 110, 32]⟩ : ByteArray)) ++ t117) ++ (⟨#[58, 32]⟩ : ByteArray)).size + t118.size ≤ 9223372036854775807 then (if ((((((((⟨#[116, 101, 120, 116, 32]⟩ : ByteArray) ++ t107) ++ (⟨#[44, 32, 108, 105, 110, 101, 32]⟩ : ByteArray)) ++ t116) ++ (⟨#[44, 32, 99, 111, 108, 117, 109, 110, 32]⟩ : ByteArray)) ++ t117) ++ (⟨#[58, 32]⟩ : ByteArray)) ++ t118).size + 1 ≤ 9223372036854775807 then ((pl_Mark.f t115 t111 a1_1).bind fun bt119 => (if (((((((((⟨#[116, 101, 120, 116, 32]⟩ : ByteArray) ++ t107) ++ (⟨#[44, 32, 108, 105, 110, 101, 32]⟩ : ByteArray)) ++ t116) ++ (⟨#[44, 32, 99, 111, 108, 117, 109, 110, 32]⟩ : ByteArray)) ++ t117) ++ (⟨#[58, 32]⟩ : ByteArray)) ++ t118) ++ (⟨#[10]⟩ : ByteArray)).size + bt119.1.size ≤ 9223372036854775807 then (if ((((((((((⟨#[116, 101, 120, 116, 32]⟩ : ByteArray) ++ t107) ++ (⟨#[44, 32, 108, 105, 110, 101, 32]⟩ : ByteArray)) ++ t116) ++ (⟨#[44, 32, 99, 111, 108, 117, 109, 110, 32]⟩ : ByteArray)) ++ t117) ++ (⟨#[58, 32]⟩ : ByteArray)) ++ t118) ++ (⟨#[10]⟩ : ByteArray)) ++ bt119.1).size + 1 ≤ 9223372036854775807 then (some (((((((((((⟨#[116, 101, 120, 116, 32]⟩ : ByteArray) ++ t107) ++ (⟨#[44, 32, 108, 105, 110, 101, 32]⟩ : ByteArray)) ++ t116) ++ (⟨#[44, 32, 99, 111, 108, 117, 109, 110, 32]⟩ : ByteArray)) ++ t117) ++ (⟨#[58, 32]⟩ : ByteArray)) ++ t118) ++ (⟨#[10]⟩ : ByteArray)) ++ bt119.1) ++ (⟨#[10]⟩ : ByteArray))) else (none)) else (none))) else (none)) else (none))) else (none)) else (none)) = some r := H
           have A33 := mK A330
           clear A330
           by_cases c34 : (((((⟨#[116, 101, 120, 116, 32]⟩ : ByteArray) ++ t107) ++ (⟨#[44, 32, 108, 105, 110, 101, 32]⟩ : ByteArray)) ++ t116) ++ (⟨#[44, 32, 99, 111, 108, 117, 109, 110, 32]⟩ : ByteArray)).size + t117.size ≤ 9223372036854775807
           ·
            rw [if_pos c34] at H
            have c34b0 := eq_true c34
            have c34b1 : decide ((((((⟨#[116, 101, 120, 116, 32]⟩ : ByteArray) ++ t107) ++ (⟨#[44, 32, 108, 105, 110, 101, 32]⟩ : ByteArray)) ++ t116) ++ (⟨#[44, 32, 99, 111, 108, 117, 109, 110, 32]⟩ : ByteArray)).size + t117.size ≤ 9223372036854775807) = true := decide_eq_true c34
            try have c34b2 : (9223372036854775807 < (((((⟨#[116, 101, 120, 116, 32]⟩ : ByteArray) ++ t107) ++ (⟨#[44, 32, 108, 105, 110, 101, 32]⟩ : ByteArray)) ++ t116) ++ (⟨#[44, 32, 99, 111, 108, 117, 109, 110, 32]⟩ : ByteArray)).size + t117.size) = False := eq_false (Nat.not_lt.2 c34)
            try (have c34s2 := c34b2; simp only [ByteArray.size_append, Go.Proofs.Ytmebogkhdbbbbaa.C.ba_lit, List.size_toArray, List.length_cons, List.length_nil, Nat.zero_add, Nat.reduceAdd] at c34s2)
            by_cases c35 : ((((((⟨#[116, 101, 120, 116, 32]⟩ : ByteArray) ++ t107) ++ (⟨#[44, 32, 108, 105, 110, 101, 32]⟩ : ByteArray)) ++ t116) ++ (⟨#[44, 32, 99, 111, 108, 117, 109, 110, 32]⟩ : ByteArray)) ++ t117).size + 2 ≤ 9223372036854775807
            ·
             rw [if_pos c35] at H
             have c35b0 := eq_true c35
             have c35b1 : decide (((((((⟨#[116, 101, 120, 116, 32]⟩ : ByteArray) ++ t107) ++ (⟨#[44, 32, 108, 105, 110, 101, 32]⟩ : ByteArray)) ++ t116) ++ (⟨#[44, 32, 99, 111, 108, 117, 109, 110, 32]⟩ : ByteArray)) ++ t117).size + 2 ≤ 9223372036854775807) = true := decide_eq_true c35
             try have c35b2 : (9223372036854775807 < ((((((⟨#[116, 101, 120, 116, 32]⟩ : ByteArray) ++ t107) ++ (⟨#[44, 32, 108, 105, 110, 101, 32]⟩ : ByteArray)) ++ t116) ++ (⟨#[44, 32, 99, 111, 108, 117, 109, 110, 32]⟩ : ByteArray)) ++ t117).size + 2) = False := eq_false (Nat.not_lt.2 c35)
             try (have c35s2 := c35b2; simp only [ByteArray.size_append, Go.Proofs.Ytmebogkhdbbbbaa.C.ba_lit, List.size_toArray, List.length_cons, List.length_nil, Nat.zero_add, Nat.reduceAdd] at c35s2)
             replace H := oB H
             obtain ⟨t118, A360, H⟩ := H
             replace H : (if (((((((⟨#[116, 101, 120, 116, 32]⟩ : ByteArray) ++ t107) ++ (⟨#[44, 32, 108, 105, 110, 101, 32]⟩ : ByteArray)) ++ t116) ++ (⟨#[44, 32, 99, 111, 108, 117, 109, 110, 32]⟩ : ByteArray)) ++ t117) ++ (⟨#[58, 32]⟩ : ByteArray)).size + t118.size ≤ 9223372036854775807 then (if ((((((((⟨#[116, 101, 120, 116, 32]⟩ : ByteArray) ++ t107) ++ (⟨#[44, 32, 108, 105, 110, 101, 32]⟩ : ByteArray)) ++ t116) ++ (⟨#[44, 32, 99, 111, 108, 117, 109, 110, 32]⟩ : ByteArray)) ++ t117) ++ (⟨#[58, 32]⟩ : ByteArray)) ++ t118).size + 1 ≤ 9223372036854775807 then ((pl_Mark.f t115 t111 a1_1).bind fun bt119 => (if (((((((((⟨#[116, 101, 120, 116, 32]⟩ : ByteArray) ++ t107) ++ (⟨#[44, 32, 108, 105, 110, 101, 32]⟩ : ByteArray)) ++ t116) ++ (⟨#[44, 32, 99, 111, 108, 117, 109, 110, 32]⟩ : ByteArray)) ++ t117) ++ (⟨#[58, 32]⟩ : ByteArray)) ++ t118) ++ (⟨#[10]⟩ : ByteArray)).size + bt119.1.size ≤ 9223372036854775807 then (if ((((((((((⟨#[116, 101, 120, 116, 32]⟩ : ByteArray) ++ t107) ++ (⟨#[44, 32, 108, 105, 110, 101, 32]⟩ : ByteArray)) ++ t116) ++ (⟨#[44, 32, 99, 111, 108, 117, 109, 110, 32]⟩ : ByteArray)) ++ t117) ++ (⟨#[58, 32]⟩ : ByteArray)) ++ t118) ++ (⟨#[10]⟩ : ByteArray)) ++ bt119.1).size + 1 ≤ 9223372036854775807 then (some (((((((((((⟨#[116, 101, 120, 116, 32]⟩ : ByteArray) ++ t107) ++ (⟨#[44, 32, 108, 105, 110, 101, 32]⟩ : ByteArray)) ++ t116) ++ (⟨#[44, 32, 99, 111, 108, 117, 109, 110, 32]⟩ : ByteArray)) ++ t117) ++ (⟨#[58, 32]⟩ : ByteArray)) ++ t118) ++ (⟨#[10]⟩ : ByteArray)) ++ bt119.1) ++ (⟨#[10]⟩ : ByteArray))) else (none)) else (none))) else (none)) else (none)) = some r := H
             have A36 := mK A360
             clear A360
             by_cases c37 : (((((((⟨#[116, 101, 120, 116, 32]⟩ : ByteArray) ++ t107) ++ (⟨#[44, 32, 108, 105, 110, 101, 32]⟩ : ByteArray)) ++ t116) ++ (⟨#[44, 32, 99, 111, 108, 117, 109, 110, 32]⟩ : ByteArray)) ++ t117) ++ (⟨#[58, 32]⟩ : ByteArray)).size + t118.size ≤ 9223372036854775807
             ·
              rw [if_pos c37] at H
              have c37b0 := eq_true c37
              have c37b1 : decide ((((((((⟨#[116, 101, 120, 116, 32]⟩ : ByteArray) ++ t107) ++ (⟨#[44, 32, 108, 105, 110, 101, 32]⟩ : ByteArray)) ++ t116) ++ (⟨#[44, 32, 99, 111, 108, 117, 109, 110, 32]⟩ : ByteArray)) ++ t117) ++ (⟨#[58, 32]⟩ : ByteArray)).size + t118.size ≤ 9223372036854775807) = true := decide_eq_true c37
              try have c37b2 : (9223372036854775807 < (((((((⟨#[116, 101, 120, 116, 32]⟩ : ByteArray) ++ t107) ++ (⟨#[44, 32, 108, 105, 110, 101, 32]⟩ : ByteArray)) ++ t116) ++ (⟨#[44, 32, 99, 111, 108, 117, 109, 110, 32]⟩ : ByteArray)) ++ t117) ++ (⟨#[58, 32]⟩ : ByteArray)).size + t118.size) = False := eq_false (Nat.not_lt.2 c37)
              try (have c37s2 := c37b2; simp only [ByteArray.size_append, Go.Proofs.Ytmebogkhdbbbbaa.C.ba_lit, List.size_toArray, List.length_cons, List.length_nil, Nat.zero_add, Nat.reduceAdd] at c37s2)
              by_cases c38 : ((((((((⟨#[116, 101, 120, 116, 32]⟩ : ByteArray) ++ t107) ++ (⟨#[44, 32, 108, 105, 110, 101, 32]⟩ : ByteArray)) ++ t116) ++ (⟨#[44, 32, 99, 111, 108, 117, 109, 110, 32]⟩ : ByteArray)) ++ t117) ++ (⟨#[58, 32]⟩ : ByteArray)) ++ t118).size + 1 ≤ 9223372036854775807
              ·
               rw [if_pos c38] at H
               have c38b0 := eq_true c38
               have c38b1 : decide (((((((((⟨#[116, 101, 120, 116, 32]⟩ : ByteArray) ++ t107) ++ (⟨#[44, 32, 108, 105, 110, 101, 32]⟩ : ByteArray)) ++ t116) ++ (⟨#[44, 32, 99, 111, 108, 117, 109, 110, 32]⟩ : ByteArray)) ++ t117) ++ (⟨#[58, 32]⟩ : ByteArray)) ++ t118).size + 1 ≤ 9223372036854775807) = true := decide_eq_true c38
               try have c38b2 : (9223372036854775807 < ((((((((⟨#[116, 101, 120, 116, 32]⟩ : ByteArray) ++ t107) ++ (⟨#[44, 32, 108, 105, 110, 101, 32]⟩ : ByteArray)) ++ t116) ++ (⟨#[44, 32, 99, 111, 108, 117, 109, 110, 32]⟩ : ByteArray)) ++ t117) ++ (⟨#[58, 32]⟩ : ByteArray)) ++ t118).size + 1) = False := eq_false (Nat.not_lt.2 c38)
               try (have c38s2 := c38b2; simp only [ByteArray.size_append, Go.Proofs.Ytmebogkhdbbbbaa.C.ba_lit, List.size_toArray, List.length_cons, List.length_nil, Nat.zero_add, Nat.reduceAdd] at c38s2)
               replace H := oB H
               obtain ⟨⟨t119, t120⟩, A390, H⟩ := H
               replace H : (if (((((((((⟨#[116, 101, 120, 116, 32]⟩ : ByteArray) ++ t107) ++ (⟨#[44, 32, 108, 105, 110, 101, 32]⟩ : ByteArray)) ++ t116) ++ (⟨#[44, 32, 99, 111, 108, 117, 109, 110, 32]⟩ : ByteArray)) ++ t117) ++ (⟨#[58, 32]⟩ : ByteArray)) ++ t118) ++ (⟨#[10]⟩ : ByteArray)).size + t119.size ≤ 9223372036854775807 then (if ((((((((((⟨#[116, 101, 120, 116, 32]⟩ : ByteArray) ++ t107) ++ (⟨#[44, 32, 108, 105, 110, 101, 32]⟩ : ByteArray)) ++ t116) ++ (⟨#[44, 32, 99, 111, 108, 117, 109, 110, 32]⟩ : ByteArray)) ++ t117) ++ (⟨#[58, 32]⟩ : ByteArray)) ++ t118) ++ (⟨#[10]⟩ : ByteArray)) ++ t119).size + 1 ≤ 9223372036854775807 then (some (((((((((((⟨#[116, 101, 120, 116, 32]⟩ : ByteArray) ++ t107) ++ (⟨#[44, 32, 108, 105, 110, 101, 32]⟩ : ByteArray)) ++ t116) ++ (⟨#[44, 32, 99, 111, 108, 117, 109, 110, 32]⟩ : ByteArray)) ++ t117) ++ (⟨#[58, 32]⟩ : ByteArray)) ++ t118) ++ (⟨#[10]⟩ : ByteArray)) ++ t119) ++ (⟨#[10]⟩ : ByteArray))) else (none)) else (none)) = some r := H
               have A39 := mK A390
               clear A390
               by_cases c40 : (((((((((⟨#[116, 101, 120, 116, 32]⟩ : ByteArray) ++ t107) ++ (⟨#[44, 32, 108, 105, 110, 101, 32]⟩ : ByteArray)) ++ t116) ++ (⟨#[44, 32, 99, 111, 108, 117, 109, 110, 32]⟩ : ByteArray)) ++ t117) ++ (⟨#[58, 32]⟩ : ByteArray)) ++ t118) ++ (⟨#[10]⟩ : ByteArray)).size + t119.size ≤ 9223372036854775807
               ·
                rw [if_pos c40] at H
                have c40b0 := eq_true c40
                have c40b1 : decide ((((((((((⟨#[116, 101, 120, 116, 32]⟩ : ByteArray) ++ t107) ++ (⟨#[44, 32, 108, 105, 110, 101, 32]⟩ : ByteArray)) ++ t116) ++ (⟨#[44, 32, 99, 111, 108, 117, 109, 110, 32]⟩ : ByteArray)) ++ t117) ++ (⟨#[58, 32]⟩ : ByteArray)) ++ t118) ++ (⟨#[10]⟩ : ByteArray)).size + t119.size ≤ 9223372036854775807) = true := decide_eq_true c40
                try have c40b2 : (9223372036854775807 < (((((((((⟨#[116, 101, 120, 116, 32]⟩ : ByteArray) ++ t107) ++ (⟨#[44, 32, 108, 105, 110, 101, 32]⟩ : ByteArray)) ++ t116) ++ (⟨#[44, 32, 99, 111, 108, 117, 109, 110, 32]⟩ : ByteArray)) ++ t117) ++ (⟨#[58, 32]⟩ : ByteArray)) ++ t118) ++ (⟨#[10]⟩ : ByteArray)).size + t119.size) = False := eq_false (Nat.not_lt.2 c40)
                try (have c40s2 := c40b2; simp only [ByteArray.size_append, Go.Proofs.Ytmebogkhdbbbbaa.C.ba_lit, List.size_toArray, List.length_cons, List.length_nil, Nat.zero_add, Nat.reduceAdd] at c40s2)
                by_cases c41 : ((((((((((⟨#[116, 101, 120, 116, 32]⟩ : ByteArray) ++ t107) ++ (⟨#[44, 32, 108, 105, 110, 101, 32]⟩ : ByteArray)) ++ t116) ++ (⟨#[44, 32, 99, 111, 108, 117, 109, 110, 32]⟩ : ByteArray)) ++ t117) ++ (⟨#[58, 32]⟩ : ByteArray)) ++ t118) ++ (⟨#[10]⟩ : ByteArray)) ++ t119).size + 1 ≤ 9223372036854775807
                ·
                 rw [if_pos c41] at H
                 have c41b0 := eq_true c41
                 have c41b1 : decide (((((((((((⟨#[116, 101, 120, 116, 32]⟩ : ByteArray) ++ t107) ++ (⟨#[44, 32, 108, 105, 110, 101, 32]⟩ : ByteArray)) ++ t116) ++ (⟨#[44, 32, 99, 111, 108, 117, 109, 110, 32]⟩ : ByteArray)) ++ t117) ++ (⟨#[58, 32]⟩ : ByteArray)) ++ t118) ++ (⟨#[10]⟩ : ByteArray)) ++ t119).size + 1 ≤ 9223372036854775807) = true := decide_eq_true c41
                 try have c41b2 : (9223372036854775807 < ((((((((((⟨#[116, 101, 120, 116, 32]⟩ : ByteArray) ++ t107) ++ (⟨#[44, 32, 108, 105, 110, 101, 32]⟩ : ByteArray)) ++ t116) ++ (⟨#[44, 32, 99, 111, 108, 117, 109, 110, 32]⟩ : ByteArray)) ++ t117) ++ (⟨#[58, 32]⟩ : ByteArray)) ++ t118) ++ (⟨#[10]⟩ : ByteArray)) ++ t119).size + 1) = False := eq_false (Nat.not_lt.2 c41)
                 try (have c41s2 := c41b2; simp only [ByteArray.size_append, Go.Proofs.Ytmebogkhdbbbbaa.C.ba_lit, List.size_toArray, List.length_cons, List.length_nil, Nat.zero_add, Nat.reduceAdd] at c41s2)
                 obtain rfl := Option.some.inj H
                 obtain ⟨hcz42_0, hcz42_1, hcz42_2, hfz42_0, hfz42_1, hfz42_2⟩ := cf3 BK105.out
                 have p109 : 0 ≤ (a1_0 : Int) := of_decide_eq_true (by first | (with_reducible assumption) | assumption)
                 have q109 : a1_0 < (l0.length : Int) := of_decide_eq_true (by first | (with_reducible assumption) | assumption)
                 obtain ⟨ad109, e109, hx109_0⟩ := Kd.at_string HR0.out a1_0 p109 q109
                 cases e109
                 replace hx109_0 := (HB.out.cell (World.block_lt_of_cell? w _ hx109_0)).trans hx109_0
                 replace p109 := eq_true p109
                 replace q109 := eq_true q109
                 try go_wp2_with (first | ((with_reducible refine gate_callee (f := 19) rfl ?_); refine goesL_ (some 43) rfl rfl Try.func19 (by kernel_rfl) rfl #[.string (rdOf ByteArray.empty l0 a1_0)] rfl (by (try simp only [List.map_toArray, List.map_cons, List.map_nil]); first | done | rfl) ?_; (with_reducible refine (pl_New.calls (rdOf ByteArray.empty l0 a1_0) t110 t111 w _ ?side1 A27.out).mono ?_); (case side1 => repeat (first | (with_reducible first | exact HB.out | apply bA | apply bN | apply bD | refine bS ?_ GE105.out) | exact HB.out)); rintro e w43 ⟨g112, rfl, hi, hb, hb2⟩; refine ⟨_, rfl, ?_⟩; have n0_ := mK (kB (g := gb105) (o := .cells #[.int .i64 a1_0, .int .i64 a1_1, .int .i64 a1_2] 25 (0, 0)) (by (with_reducible repeat (first | refine kN ?_ _ | refine kD ?_ | refine kA ?_ _)); exact BK105.out) hb2); have n1_ := mK (hb); have n2_ := mK (hi); have n3_ := mK (PlIs.ne_blk hi (kB (g := gb105) (o := .cells #[.int .i64 a1_0, .int .i64 a1_1, .int .i64 a1_2] 25 (0, 0)) (by (with_reducible repeat (first | refine kN ?_ _ | refine kD ?_ | refine kA ?_ _)); exact BK105.out) hb2) (by decide)); have n4_ := mK (Ne.symm (PlIs.ne_blk hi (kB (g := gb105) (o := .cells #[.int .i64 a1_0, .int .i64 a1_1, .int .i64 a1_2] 25 (0, 0)) (by (with_reducible repeat (first | refine kN ?_ _ | refine kD ?_ | refine kA ?_ _)); exact BK105.out) hb2) (by decide))); clear BK105; clear HB; have BK105 := n0_; have HB := n1_; have HI112 := n2_; have NB112_105 := n3_; have NB105_112 := n4_; clear n0_ n1_ n2_ n3_ n4_; (try clear hb); (try clear hb2); (try clear hk); (try clear hi); have hnb44 := NB105_112.out; have hnc44 := NB112_105.out; obtain ⟨hcz45_0, hcz45_1, hcz45_2, hfz45_0, hfz45_1, hfz45_2⟩ := cf3 BK105.out) | ((with_reducible refine gate_callee (f := 20) rfl ?_); refine goesL_ (some 48) rfl rfl Try.func20 (by kernel_rfl) rfl #[.pointer (some ⟨g112, 0, none⟩), .int .i64 a1_1] rfl (by (try simp only [List.map_toArray, List.map_cons, List.map_nil]); first | done | rfl) ?_; (with_reducible refine (pl_At.calls g112 t110 t111 a1_1 t113 t114 t115 w _ ?side1 ?side2 A28.out).mono ?_); (case side1 => repeat (first | (with_reducible first | exact HI112.out | apply PlIs.alloc | apply PlIs.drewN | apply PlIs.drew | apply PlIs.set_0 | refine PlIs.far ?_ NB112_105.out _) | exact HI112.out)); (case side2 => repeat (first | (with_reducible first | exact HB.out | apply bA | apply bN | apply bD | refine bS ?_ (PlIs.ge HI112.out) | refine bS ?_ GE105.out) | exact HB.out)); rintro e w46 ⟨rfl, hi, hb, hk⟩; refine ⟨_, rfl, ?_⟩; have n0_ := mK (KeepBut.blk hk (g' := gb105) (o := .cells #[.int .i64 a1_0, .int .i64 a1_1, .int .i64 a1_2] 25 (0, 0)) (by (with_reducible repeat (first | refine kN ?_ _ | refine kD ?_ | refine kA ?_ _)); exact BK105.out) NB105_112.out (by simp)); have n1_ := mK (hb); have n2_ := mK (hi); clear BK105; clear HB; clear HI112; have BK105 := n0_; have HB := n1_; have HI112 := n2_; clear n0_ n1_ n2_; (try clear hb); (try clear hb2); (try clear hk); (try clear hi)))
                 have n0_ := mK (kD BK105.out)
                 have n1_ := mK (PlIs.drew HI112.out)
                 have n2_ := mK (bD HB.out)
                 clear BK105
                 clear HI112
                 clear HB
                 have BK105 := n0_
                 have HI112 := n1_
                 have HB := n2_
                 clear n0_ n1_ n2_
                 refine start_ (n := 22) (S := fun w' => w'.cell? ⟨gb105, 0, none⟩ = some (.int .i64 a1_0) ∧ w'.cell? ⟨gb105, 1, none⟩ = some (.int .i64 a1_1) ∧ w'.cell? ⟨gb105, 2, none⟩ = some (.int .i64 a1_2)) (ds := []) #[false, false, false, false, false, false, false, false, false, false, false, false, false, false, false, false, false, false, false, false, false, false] (by kernel_rfl) rfl rfl ⟨(kC BK105.out 0).trans rfl, (kC BK105.out 1).trans rfl, (kC BK105.out 2).trans rfl⟩ (fun hHeld => ?_); refine with_tabW report_Fault.tab8 report_Fault.bits8 (fun HT_ HW_ => ?_)
                 generalize w46.drew = w47 at BK105 HI112 HB hHeld ⊢
                 refine pure_ (i := 0) (N := some 51) (v := ?_) (a' := ?_) #[true, false, false, false, false, false, false, false, false, false, false, false, false, false, false, false, false, false, false, false, false, false] rfl rfl (any_of HT_.out (by kernel_rfl)) (fun _ _ _ h => h) (Or.inl ⟨by rfl, ?_⟩) ?_ ?_
                 rotate_left
                 ·
                  intro w'
                  go_simp
                  with_reducible rfl
                 rotate_left
                 ·
                  simp only [Act.put, List.setIfInBounds_toArray, List.set_cons_zero, List.set_cons_succ, i64_w, i32_w]
                  rfl
                 refine pure_ (i := 1) (N := some 52) (v := ?_) (a' := ?_) #[true, true, false, false, false, false, false, false, false, false, false, false, false, false, false, false, false, false, false, false, false, false] rfl rfl (any_of HT_.out (by kernel_rfl)) (fun _ _ _ h => h) (Or.inl ⟨by rfl, ?_⟩) ?_ ?_
                 rotate_left
                 ·
                  intro w'
                  go_simp
                  with_reducible rfl
                 rotate_left
                 ·
                  simp only [Act.put, List.setIfInBounds_toArray, List.set_cons_zero, List.set_cons_succ, i64_w, i32_w]
                  rfl
                 refine pure_ (i := 2) (N := some 53) (v := ?_) (a' := ?_) #[true, true, true, false, false, false, false, false, false, false, false, false, false, false, false, false, false, false, false, false, false, false] rfl rfl (any_of HT_.out (by kernel_rfl)) (fun _ _ _ h => h) (Or.inl ⟨by rfl, ?_⟩) ?_ ?_
                 rotate_left
                 ·
                  intro w'
                  go_simp
                  with_reducible rfl
                 rotate_left
                 ·
                  simp only [Act.put, List.setIfInBounds_toArray, List.set_cons_zero, List.set_cons_succ, i64_w, i32_w]
                  rfl
                 refine pure_ (i := 6) (N := some 57) (v := ?_) (a' := ?_) #[true, true, true, false, false, false, true, false, false, false, false, false, false, false, false, false, false, false, false, false, false, false] rfl rfl (any_of HT_.out (by kernel_rfl)) (fun _ _ _ h => h) (Or.inl ⟨by rfl, ?_⟩) ?_ ?_
                 rotate_left
                 ·
                  intro w'
                  go_simp
                  with_reducible rfl
                 rotate_left
                 ·
                  simp only [Act.put, List.setIfInBounds_toArray, List.set_cons_zero, List.set_cons_succ, i64_w, i32_w]
                  rfl
                 refine pure_ (i := 10) (N := some 61) (v := ?_) (a' := ?_) #[true, true, true, false, false, false, true, false, false, false, true, false, false, false, false, false, false, false, false, false, false, false] rfl rfl (any_of HT_.out (by kernel_rfl)) (fun _ _ _ h => h) (Or.inl ⟨by rfl, ?_⟩) ?_ ?_
                 rotate_left
                 ·
                  intro w'
                  go_simp
                  with_reducible rfl
                 rotate_left
                 ·
                  simp only [Act.put, List.setIfInBounds_toArray, List.set_cons_zero, List.set_cons_succ, i64_w, i32_w]
                  rfl
                 refine pure_ (i := 15) (N := some 66) (v := ?_) (a' := ?_) #[true, true, true, false, false, false, true, false, false, false, true, false, false, false, false, true, false, false, false, false, false, false] rfl rfl (any_of HT_.out (by kernel_rfl)) (fun _ _ _ h => h) (Or.inl ⟨by rfl, ?_⟩) ?_ ?_
                 rotate_left
                 ·
                  intro w'
                  go_simp
                  with_reducible rfl
                 rotate_left
                 ·
                  simp only [Act.put, List.setIfInBounds_toArray, List.set_cons_zero, List.set_cons_succ, i64_w, i32_w]
                  rfl
                 refine pure_ (i := 16) (N := some 67) (v := ?_) (a' := ?_) #[true, true, true, false, false, false, true, false, false, false, true, false, false, false, false, true, true, false, false, false, false, false] rfl rfl (any_of HT_.out (by kernel_rfl)) (fun _ _ _ h => h) (Or.inl ⟨by rfl, ?_⟩) ?_ ?_
                 rotate_left
                 ·
                  intro w'
                  go_simp
                  with_reducible rfl
                 rotate_left
                 ·
                  simp only [Act.put, List.setIfInBounds_toArray, List.set_cons_zero, List.set_cons_succ, i64_w, i32_w]
                  rfl
                 refine take_ (i := 11) (N := some 62) (v := ?_) (a' := ?_) #[true, true, true, false, false, false, true, false, false, false, true, true, false, false, false, true, true, false, false, false, false, false] rfl rfl (take_ofW HT_.out HW_.out (by kernel_rfl)) (fun _ _ _ h => h) (Or.inl ⟨by rfl, ?_⟩) hHeld ?_ ?_
                 rotate_left
                 ·
                  rintro w' ⟨s0, s1, s2⟩
                  go_simp
                  with_reducible rfl
                 rotate_left
                 ·
                  simp only [Act.put, List.setIfInBounds_toArray, List.set_cons_zero, List.set_cons_succ, i64_w, i32_w]
                  rfl
                 refine take_ (i := 17) (N := some 68) (v := ?_) (a' := ?_) #[true, true, true, false, false, false, true, false, false, false, true, true, false, false, false, true, true, true, false, false, false, false] rfl rfl (take_ofW HT_.out HW_.out (by kernel_rfl)) (fun _ _ _ h => h) (Or.inl ⟨by rfl, ?_⟩) hHeld ?_ ?_
                 rotate_left
                 ·
                  rintro w' ⟨s0, s1, s2⟩
                  go_simp
                  with_reducible rfl
                 rotate_left
                 ·
                  simp only [Act.put, List.setIfInBounds_toArray, List.set_cons_zero, List.set_cons_succ, i64_w, i32_w]
                  rfl
                 refine one_ (i := 3) (N := some 54) #[true, true, true, true, false, false, true, false, false, false, true, true, false, false, false, true, true, true, false, false, false, false] rfl rfl (one_of HT_.out (by kernel_rfl)) (by decide) (fun K hK => ?_)
                 refine goes_ Try.func18 (by kernel_rfl) rfl #[.int .i64 t113] (by rfl) rfl rfl (by (try simp only [List.map_toArray, List.map_cons, List.map_nil]); first | done | rfl) ?_
                 with_reducible refine (word_Text.calls t113 t116 _ A30.out).mono ?_
                 rintro e w48 ⟨rfl, hb⟩
                 refine ⟨_, rfl, ?_⟩
                 have n0_ := mK (kB (g := gb105) (o := .cells #[.int .i64 a1_0, .int .i64 a1_1, .int .i64 a1_2] 25 (0, 0)) (by (with_reducible repeat (first | refine kN ?_ _ | refine kD ?_ | refine kA ?_ _)); exact BK105.out) hb)
                 have n1_ := mK (PlIs.below (by repeat (first | (with_reducible first | exact HI112.out | apply PlIs.alloc | apply PlIs.drewN | apply PlIs.drew | apply PlIs.set_0 | refine PlIs.far ?_ NB112_105.out _) | exact HI112.out)) hb)
                 have n2_ := mK (bP (by repeat (first | (with_reducible first | exact HB.out | apply bA | apply bN | apply bD | refine bS ?_ (PlIs.ge HI112.out) | refine bS ?_ GE105.out) | exact HB.out)) hb)
                 clear BK105
                 clear HI112
                 clear HB
                 have BK105 := n0_
                 have HI112 := n1_
                 have HB := n2_
                 clear n0_ n1_ n2_
                 (try clear hb)
                 (try clear hb2)
                 (try clear hk)
                 (try clear hi)
                 refine hK.out _ _ ⟨(kC BK105.out 0).trans rfl, (kC BK105.out 1).trans rfl, (kC BK105.out 2).trans rfl⟩ (fun hHeld => ?_)
                 clear hK K
                 refine norm_ (a' := ?_) ?_ ?_
                 rotate_left
                 ·
                  show Act.put _ (some 54) _ = _
                  simp only [Act.put, List.setIfInBounds_toArray, List.set_cons_zero, List.set_cons_succ, i64_w, i32_w]
                  rfl
                 refine pure_ (i := 4) (N := some 55) (v := ?_) (a' := ?_) #[true, true, true, true, true, false, true, false, false, false, true, true, false, false, false, true, true, true, false, false, false, false] rfl rfl (any_of HT_.out (by kernel_rfl)) (fun _ _ _ h => h) (Or.inl ⟨by rfl, ?_⟩) ?_ ?_
                 rotate_left
                 ·
                  intro w'
                  go_simp
                  with_reducible rfl
                 rotate_left
                 ·
                  simp only [Act.put, List.setIfInBounds_toArray, List.set_cons_zero, List.set_cons_succ, i64_w, i32_w]
                  rfl
                 refine pure_ (i := 5) (N := some 56) (v := ?_) (a' := ?_) #[true, true, true, true, true, true, true, false, false, false, true, true, false, false, false, true, true, true, false, false, false, false] rfl rfl (any_of HT_.out (by kernel_rfl)) (fun _ _ _ h => h) (Or.inl ⟨by rfl, ?_⟩) ?_ ?_
                 rotate_left
                 ·
                  intro w'
                  go_simp
                  with_reducible rfl
                 rotate_left
                 ·
                  simp only [Act.put, List.setIfInBounds_toArray, List.set_cons_zero, List.set_cons_succ, i64_w, i32_w]
                  rfl
                 refine one_ (i := 7) (N := some 58) #[true, true, true, true, true, true, true, true, false, false, true, true, false, false, false, true, true, true, false, false, false, false] rfl rfl (one_of HT_.out (by kernel_rfl)) (by decide) (fun K hK => ?_)
                 refine goes_ Try.func18 (by kernel_rfl) rfl #[.int .i64 t114] (by rfl) rfl rfl (by (try simp only [List.map_toArray, List.map_cons, List.map_nil]); first | done | rfl) ?_
                 with_reducible refine (word_Text.calls t114 t117 _ A33.out).mono ?_
                 rintro e w49 ⟨rfl, hb⟩
                 refine ⟨_, rfl, ?_⟩
                 have n0_ := mK (kB (g := gb105) (o := .cells #[.int .i64 a1_0, .int .i64 a1_1, .int .i64 a1_2] 25 (0, 0)) (by (with_reducible repeat (first | refine kN ?_ _ | refine kD ?_ | refine kA ?_ _)); exact BK105.out) hb)
                 have n1_ := mK (PlIs.below (by repeat (first | (with_reducible first | exact HI112.out | apply PlIs.alloc | apply PlIs.drewN | apply PlIs.drew | apply PlIs.set_0 | refine PlIs.far ?_ NB112_105.out _) | exact HI112.out)) hb)
                 have n2_ := mK (bP (by repeat (first | (with_reducible first | exact HB.out | apply bA | apply bN | apply bD | refine bS ?_ (PlIs.ge HI112.out) | refine bS ?_ GE105.out) | exact HB.out)) hb)
                 clear BK105
                 clear HI112
                 clear HB
                 have BK105 := n0_
                 have HI112 := n1_
                 have HB := n2_
                 clear n0_ n1_ n2_
                 (try clear hb)
                 (try clear hb2)
                 (try clear hk)
                 (try clear hi)
                 refine hK.out _ _ ⟨(kC BK105.out 0).trans rfl, (kC BK105.out 1).trans rfl, (kC BK105.out 2).trans rfl⟩ (fun hHeld => ?_)
                 clear hK K
                 refine norm_ (a' := ?_) ?_ ?_
                 rotate_left
                 ·
                  show Act.put _ (some 58) _ = _
                  simp only [Act.put, List.setIfInBounds_toArray, List.set_cons_zero, List.set_cons_succ, i64_w, i32_w]
                  rfl
                 refine pure_ (i := 8) (N := some 59) (v := ?_) (a' := ?_) #[true, true, true, true, true, true, true, true, true, false, true, true, false, false, false, true, true, true, false, false, false, false] rfl rfl (any_of HT_.out (by kernel_rfl)) (fun _ _ _ h => h) (Or.inl ⟨by rfl, ?_⟩) ?_ ?_
                 rotate_left
                 ·
                  intro w'
                  go_simp
                  with_reducible rfl
                 rotate_left
                 ·
                  simp only [Act.put, List.setIfInBounds_toArray, List.set_cons_zero, List.set_cons_succ, i64_w, i32_w]
                  rfl
                 refine pure_ (i := 9) (N := some 60) (v := ?_) (a' := ?_) #[true, true, true, true, true, true, true, true, true, true, true, true, false, false, false, true, true, true, false, false, false, false] rfl rfl (any_of HT_.out (by kernel_rfl)) (fun _ _ _ h => h) (Or.inl ⟨by rfl, ?_⟩) ?_ ?_
                 rotate_left
                 ·
                  intro w'
                  go_simp
                  with_reducible rfl
                 rotate_left
                 ·
                  simp only [Act.put, List.setIfInBounds_toArray, List.set_cons_zero, List.set_cons_succ, i64_w, i32_w]
                  rfl
                 refine one_ (i := 12) (N := some 63) #[true, true, true, true, true, true, true, true, true, true, true, true, true, false, false, true, true, true, false, false, false, false] rfl rfl (one_of HT_.out (by kernel_rfl)) (by decide) (fun K hK => ?_)
                 refine goes_ Try.func9 (by kernel_rfl) rfl #[.int .i64 a1_2] (by rfl) rfl rfl (by (try simp only [List.map_toArray, List.map_cons, List.map_nil]); first | done | rfl) ?_
                 with_reducible refine (report_Message.calls kj10 a1_2 t118 _ A36.out).mono ?_
                 rintro e w50 ⟨rfl, hb⟩
                 refine ⟨_, rfl, ?_⟩
                 have n0_ := mK (kB (g := gb105) (o := .cells #[.int .i64 a1_0, .int .i64 a1_1, .int .i64 a1_2] 25 (0, 0)) (by (with_reducible repeat (first | refine kN ?_ _ | refine kD ?_ | refine kA ?_ _)); exact BK105.out) hb)
                 have n1_ := mK (PlIs.below (by repeat (first | (with_reducible first | exact HI112.out | apply PlIs.alloc | apply PlIs.drewN | apply PlIs.drew | apply PlIs.set_0 | refine PlIs.far ?_ NB112_105.out _) | exact HI112.out)) hb)
                 have n2_ := mK (bP (by repeat (first | (with_reducible first | exact HB.out | apply bA | apply bN | apply bD | refine bS ?_ (PlIs.ge HI112.out) | refine bS ?_ GE105.out) | exact HB.out)) hb)
                 clear BK105
                 clear HI112
                 clear HB
                 have BK105 := n0_
                 have HI112 := n1_
                 have HB := n2_
                 clear n0_ n1_ n2_
                 (try clear hb)
                 (try clear hb2)
                 (try clear hk)
                 (try clear hi)
                 refine hK.out _ _ ⟨(kC BK105.out 0).trans rfl, (kC BK105.out 1).trans rfl, (kC BK105.out 2).trans rfl⟩ (fun hHeld => ?_)
                 clear hK K
                 refine norm_ (a' := ?_) ?_ ?_
                 rotate_left
                 ·
                  show Act.put _ (some 63) _ = _
                  simp only [Act.put, List.setIfInBounds_toArray, List.set_cons_zero, List.set_cons_succ, i64_w, i32_w]
                  rfl
                 refine pure_ (i := 13) (N := some 64) (v := ?_) (a' := ?_) #[true, true, true, true, true, true, true, true, true, true, true, true, true, true, false, true, true, true, false, false, false, false] rfl rfl (any_of HT_.out (by kernel_rfl)) (fun _ _ _ h => h) (Or.inl ⟨by rfl, ?_⟩) ?_ ?_
                 rotate_left
                 ·
                  intro w'
                  go_simp
                  with_reducible rfl
                 rotate_left
                 ·
                  simp only [Act.put, List.setIfInBounds_toArray, List.set_cons_zero, List.set_cons_succ, i64_w, i32_w]
                  rfl
                 refine pure_ (i := 14) (N := some 65) (v := ?_) (a' := ?_) #[true, true, true, true, true, true, true, true, true, true, true, true, true, true, true, true, true, true, false, false, false, false] rfl rfl (any_of HT_.out (by kernel_rfl)) (fun _ _ _ h => h) (Or.inl ⟨by rfl, ?_⟩) ?_ ?_
                 rotate_left
                 ·
                  intro w'
                  go_simp
                  with_reducible rfl
                 rotate_left
                 ·
                  simp only [Act.put, List.setIfInBounds_toArray, List.set_cons_zero, List.set_cons_succ, i64_w, i32_w]
                  rfl
                 refine one_ (i := 18) (N := some 69) #[true, true, true, true, true, true, true, true, true, true, true, true, true, true, true, true, true, true, true, false, false, false] rfl rfl (one_of HT_.out (by kernel_rfl)) (by decide) (fun K hK => ?_)
                 refine goes_ Try.func21 (by kernel_rfl) rfl #[.pointer (some ⟨g112, 0, none⟩), .int .i64 a1_1] (by rfl) rfl rfl (by (try simp only [List.map_toArray, List.map_cons, List.map_nil]); first | done | rfl) ?_
                 with_reducible refine (pl_Mark.calls g112 t115 t111 a1_1 t119 t120 w _ ?side1 ?side2 A39.out).mono ?_
                 (case side1 => repeat (first | (with_reducible first | exact HI112.out | apply PlIs.alloc | apply PlIs.drewN | apply PlIs.drew | apply PlIs.set_0 | refine PlIs.far ?_ NB112_105.out _) | exact HI112.out))
                 (case side2 => repeat (first | (with_reducible first | exact HB.out | apply bA | apply bN | apply bD | refine bS ?_ (PlIs.ge HI112.out) | refine bS ?_ GE105.out) | exact HB.out))
                 rintro e w51 ⟨rfl, hi, hb, hk⟩
                 refine ⟨_, rfl, ?_⟩
                 have n0_ := mK (KeepBut.blk hk (g' := gb105) (o := .cells #[.int .i64 a1_0, .int .i64 a1_1, .int .i64 a1_2] 25 (0, 0)) (by (with_reducible repeat (first | refine kN ?_ _ | refine kD ?_ | refine kA ?_ _)); exact BK105.out) NB105_112.out (by simp))
                 have n1_ := mK (hb)
                 have n2_ := mK (hi)
                 clear BK105
                 clear HB
                 clear HI112
                 have BK105 := n0_
                 have HB := n1_
                 have HI112 := n2_
                 clear n0_ n1_ n2_
                 (try clear hb)
                 (try clear hb2)
                 (try clear hk)
                 (try clear hi)
                 refine hK.out _ _ ⟨(kC BK105.out 0).trans rfl, (kC BK105.out 1).trans rfl, (kC BK105.out 2).trans rfl⟩ (fun hHeld => ?_)
                 clear hK K
                 refine norm_ (a' := ?_) ?_ ?_
                 rotate_left
                 ·
                  show Act.put _ (some 69) _ = _
                  simp only [Act.put, List.setIfInBounds_toArray, List.set_cons_zero, List.set_cons_succ, i64_w, i32_w]
                  rfl
                 refine pure_ (i := 19) (N := some 70) (v := ?_) (a' := ?_) #[true, true, true, true, true, true, true, true, true, true, true, true, true, true, true, true, true, true, true, true, false, false] rfl rfl (any_of HT_.out (by kernel_rfl)) (fun _ _ _ h => h) (Or.inl ⟨by rfl, ?_⟩) ?_ ?_
                 rotate_left
                 ·
                  intro w'
                  go_simp
                  with_reducible rfl
                 rotate_left
                 ·
                  simp only [Act.put, List.setIfInBounds_toArray, List.set_cons_zero, List.set_cons_succ, i64_w, i32_w]
                  rfl
                 refine pure_ (i := 20) (N := some 71) (v := ?_) (a' := ?_) #[true, true, true, true, true, true, true, true, true, true, true, true, true, true, true, true, true, true, true, true, true, false] rfl rfl (any_of HT_.out (by kernel_rfl)) (fun _ _ _ h => h) (Or.inl ⟨by rfl, ?_⟩) ?_ ?_
                 rotate_left
                 ·
                  intro w'
                  go_simp
                  with_reducible rfl
                 rotate_left
                 ·
                  simp only [Act.put, List.setIfInBounds_toArray, List.set_cons_zero, List.set_cons_succ, i64_w, i32_w]
                  rfl
                 refine pure_ (i := 21) (N := some 4) (v := ?_) (a' := ?_) #[true, true, true, true, true, true, true, true, true, true, true, true, true, true, true, true, true, true, true, true, true, true] rfl rfl (any_of HT_.out (by kernel_rfl)) (fun _ _ _ h => h) (Or.inl ⟨by rfl, ?_⟩) ?_ ?_
                 rotate_left
                 ·
                  intro w'
                  go_simp
                  with_reducible rfl
                 rotate_left
                 ·
                  simp only [Act.put, List.setIfInBounds_toArray, List.set_cons_zero, List.set_cons_succ, i64_w, i32_w]
                  rfl
                 refine done_ (done_of HT_.out (by kernel_rfl)) ?_
                 try go_wp2
                 go_ret
                 exact ⟨by first | rfl | (simp [errW_none, errW_some] <;> rfl) | (simp [*, errW_none, errW_some] <;> rfl), by repeat (first | (with_reducible first | exact HB.out | apply bA | apply bN | apply bD | refine bS ?_ (PlIs.ge HI112.out) | refine bS ?_ GE105.out) | exact HB.out)⟩
                ·
                 rw [if_neg c41] at H
                 exact absurd H (by simp)
               ·
                rw [if_neg c40] at H
                exact absurd H (by simp)
              ·
               rw [if_neg c38] at H
               exact absurd H (by simp)
             ·
              rw [if_neg c37] at H
              exact absurd H (by simp)
            ·
             rw [if_neg c35] at H
             exact absurd H (by simp)
           ·
            rw [if_neg c34] at H
            exact absurd H (by simp)
          ·
           rw [if_neg c32] at H
           exact absurd H (by simp)
         ·
          rw [if_neg c31] at H
          exact absurd H (by simp)
        ·
         rw [if_neg c29] at H
         exact absurd H (by simp)
       ·
        rw [if_neg c26] at H
        exact absurd H (by simp)
      ·
       rw [if_neg c25] at H
       exact absurd H (by simp)
  ·
   rw [if_neg c10] at H
   exact absurd H (by simp)



/-! ### pascalinelaw31_awake: function 6 -/
def pascalinelaw31_awake.f (k : Nat)  : Option (Bool) := (report_Fault.f k ([] : List ByteArray) 64 0 243).bind fun t105 => (some (t105.toList == ([116, 101, 120, 116, 32, 54, 53, 58, 32, 116, 111, 111, 32, 109, 97, 110, 121, 32, 109, 111, 100, 117, 108, 101, 115, 10] : List UInt8)))
theorem pascalinelaw31_awake.mono : ∀ k, LeO (pascalinelaw31_awake.f k ) (pascalinelaw31_awake.f (k + 1) ) := by
 intro  k
 unfold pascalinelaw31_awake.f
 repeat' first
  | (with_reducible exact report_Fault.mono _ _ _ _ _)
  | (with_reducible exact LeO.refl _)
  | (with_reducible exact LeO.none _)
  | (with_reducible refine LeO.ite ?_ ?_)
  | (with_reducible refine LeO.bind ?_ (fun _ => ?_))
  | exact LeO.none _
  | refine LeO.ite ?_ ?_
  | refine LeO.bind ?_ (fun _ => ?_)
set_option maxHeartbeats 8000000 in
set_option maxRecDepth 100000 in
theorem pascalinelaw31_awake.calls (k : Nat)  (r : Bool) (w : World) (h : pascalinelaw31_awake.f k  = some r) :
 Calls Try.prog 6 #[] w fun e w' => e = .returned (.bool r) ∧ Below w.heap.size w w' := by
 have hu25 := Try.underlying25
 have HB := mK (Below.refl w.heap.size w)
 have H : ((report_Fault.f k ([] : List ByteArray) 64 0 243).bind fun t105 => (some (t105.toList == ([116, 101, 120, 116, 32, 54, 53, 58, 32, 116, 111, 111, 32, 109, 97, 110, 121, 32, 109, 111, 100, 117, 108, 101, 115, 10] : List UInt8)))) = some r := h
 clear h
 replace H := oB H
 obtain ⟨t105, A10, H⟩ := H
 replace H : (some (t105.toList == ([116, 101, 120, 116, 32, 54, 53, 58, 32, 116, 111, 111, 32, 109, 97, 110, 121, 32, 109, 111, 100, 117, 108, 101, 115, 10] : List UInt8))) = some r := H
 have A1 := mK A10
 clear A10
 obtain rfl := Option.some.inj H
 go_enter Try.func6, Try.ntmps6
 go_wp2_with (first | ((with_reducible refine gate_callee (f := 7) rfl ?_); refine goesL_ (some 2) rfl rfl Try.func7 (by kernel_rfl) rfl #[.slice none 0 0, .agg #[.int .i64 64, .int .i64 0, .int .i64 243]] rfl (by (try simp only [List.map_toArray, List.map_cons, List.map_nil]); first | done | rfl) ?_; (refine (report_Fault.calls k _ _ ([] : List ByteArray) 64 0 243 t105 _ ?side1 ?side2 A1.out).mono ?_); (case side1 => exact Kd.C_nil _ _); (case side2 => exact Nat.le_refl _); rintro e w2 ⟨rfl, hb⟩; refine ⟨_, rfl, ?_⟩; have n0_ := mK (bP (by repeat (first | (with_reducible first | exact HB.out | apply bA | apply bN | apply bD) | exact HB.out)) hb); clear HB; have HB := n0_; clear n0_; (try clear hb)))
 go_ret
 exact ⟨by first | rfl | (simp [errW_none, errW_some] <;> rfl) | (simp [*, errW_none, errW_some] <;> rfl), by repeat (first | (with_reducible first | exact HB.out | apply bA | apply bN | apply bD) | exact HB.out)⟩


/-! ### pascalineref01_Text: function 22 -/
open Go.Proofs.Ytmebogkhdbbbbaa.C
def pascalineref01_Text.f (n : Int) : Option ByteArray := if -9223372036854775808 ≤ n ∧ n < 9223372036854775808 then some (strOfNums (textOf n)) else none

/-- One round done: a is what is left, ds the digits done. -/
def pascalineref01_Text.Inv (kq : Nat) (A a : Int) (ds : List Int) : Prop :=
 0 ≤ a ∧ a < 2 ^ kq ∧ ∃ m, (0 < a ∨ 0 < m ∧ 1 ≤ kq) ∧ digs 10 kq a m ++ ds = digs 10 65 A 1 ∧ m ≤ 1 ∧ ds.length + kq = 65 ∧ a ≤ A
theorem pascalineref01_Text.Inv.pos {kq : Nat} {A a : Int} {ds : List Int} (h : pascalineref01_Text.Inv kq A a ds) : 1 ≤ kq := by
 obtain ⟨h0, h1, m, h2, _⟩ := h
 rcases Nat.eq_zero_or_pos kq with e | e
 ·
  subst e; simp at h1; omega
 ·
  exact e
theorem pascalineref01_Text.Inv.step {kq : Nat} {A a : Int} {ds : List Int} (h : pascalineref01_Text.Inv (kq + 1) A a ds) :
 (a / 10 = 0 → digs 10 65 A 1 = (48 + a % 10) :: ds) ∧ (¬ a / 10 = 0 → pascalineref01_Text.Inv kq A (a / 10) ((48 + a % 10) :: ds)) := by
 obtain ⟨h0, h1, m, h2, h3, h4, h5, h6⟩ := h
 have hd := digs_inv 10 (by omega) a kq h0 h1
 have hg : dg (a % 10) = 48 + a % 10 := (dg_lo _ (by omega)).symm
 rw [digs_succ, if_pos (by omega), List.append_assoc, List.singleton_append, hg] at h3
 have hm : m - 1 = 0 := by omega
 rw [hm] at h3
 refine ⟨fun e => ?_, fun e => ⟨hd.1, hd.2, 0, .inl (by omega), h3, by omega, by simp; omega, by omega⟩⟩
 rw [e, digs_zero] at h3
 exact h3.symm
theorem pascalineref01_Text.conv (W : World) (d : Int) :
 (convert 79 9 (.slice (some ⟨W.heap.size, 0, none⟩) 1 1)).run Try.prog (W.alloc (.cells #[.int .u8 d] 5)) = .ok (.string (strOfNums [d])) (W.alloc (.cells #[.int .u8 d] 5)) := by
 refine run_convert_bytes_arg (P := Try.prog) _ 79 5 Try.underlying79 Try.underlying5 _ 0 1 1 [d] rfl (fun i hi => ?_) 9 Try.underlying9
 obtain rfl : i = 0 := by omega
 rw [kC (blk_new W _)]
 rfl
theorem pascalineref01_Text.neg_tmod (x : Int) (h : 0 ≤ -x) : x.tmod 10 = -((-x) % 10) := by
 have e : x = -(-x) := by omega
 rw [e, Int.neg_tmod, Int.tmod_eq_emod_of_nonneg h, Int.neg_neg]
theorem pascalineref01_Text.neg_tdiv (x : Int) (h : 0 ≤ -x) : x.tdiv 10 = -((-x) / 10) := by
 have e : x = -(-x) := by omega
 rw [e, Int.neg_tdiv, Int.tdiv_eq_ediv_of_nonneg h, Int.neg_neg]
theorem pascalineref01_Text.dig1 (x : Int) (h : x.tmod 10 = -((-x) % 10)) : 48 + -x.tmod 10 = 48 + -x % 10 := by omega
theorem pascalineref01_Text.dig2 (x : Int) (h : x.tmod 10 = -((-x) % 10)) (h2 : 0 ≤ x.tmod 10) : 48 + x.tmod 10 = 48 + -x % 10 := by omega
theorem pascalineref01_Text.join (d : Int) (ds : List Int) : strOfNums [d] ++ strOfNums ds = strOfNums (d :: ds) := (strOfNums_cons d ds).symm
theorem pascalineref01_Text.fin (d : Int) (ds : List Int) : strOfNums (45 :: d :: ds) = (⟨#[45]⟩ : ByteArray) ++ (strOfNums [d] ++ strOfNums ds) := by
 rw [show (45 : Int) :: d :: ds = [45] ++ ([d] ++ ds) from rfl, strOfNums_append, strOfNums_append]; rfl

set_option maxHeartbeats 400000 in
set_option maxRecDepth 100000 in
theorem pascalineref01_Text.calls (n : Int) (r : ByteArray) (w : World) (h : pascalineref01_Text.f n = some r) :
 Calls Try.prog 22 #[.int .i64 n] w fun e w' => e = .returned (.string r) ∧ Below w.heap.size w w' := by
 unfold pascalineref01_Text.f at h
 by_cases hb : -9223372036854775808 ≤ n ∧ n < 9223372036854775808
 ·
  rw [if_pos hb] at h
  injection h with h
  have HR := mK h
  clear h
  by_cases hn : n < 0
  ·
   have HT : Aside0 (textOf n = 45 :: digs 10 65 (-n) 1) := ⟨if_pos hn⟩
   have hnb : decide (n < 0) = true := decide_eq_true hn
   go_enter Try.func22, Try.ntmps22
   go_wp2
   go_loopg [3, 4] 65 (fun kq v3 v4 w' => ∃ (ds : List Int) (x : Int), v3 = .string (strOfNums ds) ∧ v4 = .int .i64 x ∧ Aside0 (pascalineref01_Text.Inv kq (-n) (-x) ds) ∧ Aside0 (Below w.heap.size w w'))
   case atStart =>
    refine ⟨[], n, rfl, rfl, ⟨by omega, by omega, 1, by omega, by simp, by omega, by simp, by omega⟩, ⟨Below.refl _ _⟩⟩
   case round =>
    obtain ⟨ds, x, rfl, rfl, HI, HB⟩ := hrel
    have hx0 := HI.out.1
    have hk := HI.out.pos
    obtain ⟨k, rfl⟩ : ∃ k, gk = k + 1 := ⟨gk - 1, by omega⟩
    have hs : (strOfNums ds).size ≤ 1000 := by have := HI.out.2.2; rw [strOfNums_size]; obtain ⟨m, _, _, _, h5, _⟩ := this; omega
    have hxn : -x ≤ -n := by obtain ⟨m, _, _, _, _, h6⟩ := HI.out.2.2; exact h6
    have ht : x.tmod 10 = -((-x) % 10) := pascalineref01_Text.neg_tmod x hx0
    have hq : x.tdiv 10 = -((-x) / 10) := pascalineref01_Text.neg_tdiv x hx0
    have ht0 : x.tmod 10 ≤ 0 := by omega
    have ht1 : -10 < x.tmod 10 := by omega
    have hq0 : x.tdiv 10 ≤ 0 := by omega
    have hq1 : x ≤ x.tdiv 10 := by omega
    have HT2 := mK ht
    have HQ2 := mK hq
    clear ht hq
    obtain ⟨hb0, hb1⟩ := hb
    by_cases hd : x.tmod 10 < 0
    all_goals
     first | have hcv := pascalineref01_Text.conv wr (48 + -x.tmod 10) | skip
     have hcv2 := pascalineref01_Text.conv wr (48 + x.tmod 10)
     have hs1 : (strOfNums [48 + x.tmod 10]).size ≤ 1 := by rw [strOfNums_size]; simp
     have hs2 : (strOfNums [48 + -x.tmod 10]).size ≤ 1 := by rw [strOfNums_size]; simp
     by_cases hz : x.tdiv 10 = 0
     ·
      have hzb : (x.tdiv 10 == 0) = true := beq_iff_eq.mpr hz
      have HE := mK (HI.out.step.1 (by have := HQ2.out; omega))
      clear hz
      go_wp2
      go_ret
      exact ⟨by rw [← HR.out, HT.out, HE.out, pascalineref01_Text.fin]; first | (rw [← pascalineref01_Text.dig1 x HT2.out]; rfl) | (rw [← pascalineref01_Text.dig2 x HT2.out hd]; rfl), bA HB.out _⟩
     ·
      have hzb : (x.tdiv 10 == 0) = false := bQ hz
      have HE := mK (HI.out.step.2 (by have := HQ2.out; omega))
      clear hz
      go_wp2
      go_roundg k
      case measure => omega
      case rel => exact ⟨(48 + -x % 10) :: ds, x.tdiv 10, by first | (rw [pascalineref01_Text.join, ← pascalineref01_Text.dig1 x HT2.out]; done) | (rw [pascalineref01_Text.join, ← pascalineref01_Text.dig2 x HT2.out hd]; done), rfl, ⟨by have h1 := HE.out; have h2 := HQ2.out; rw [show -(x.tdiv 10) = -x / 10 by omega]; exact h1⟩, ⟨bA HB.out _⟩⟩
  ·
   have HT : Aside0 (textOf n = digs 10 65 n 1) := ⟨if_neg hn⟩
   have hnb : decide (n < 0) = false := decide_eq_false hn
   have hn0 : 0 ≤ n := by omega
   go_enter Try.func22, Try.ntmps22
   go_wp2
   go_loopg [3, 4] 65 (fun kq v3 v4 w' => ∃ (ds : List Int) (x : Int), v3 = .string (strOfNums ds) ∧ v4 = .int .i64 x ∧ Aside0 (pascalineref01_Text.Inv kq n x ds) ∧ Aside0 (Below w.heap.size w w'))
   case atStart =>
    refine ⟨[], n, rfl, rfl, ⟨by omega, by omega, 1, by omega, by simp, by omega, by simp, by omega⟩, ⟨Below.refl _ _⟩⟩
   case round =>
    obtain ⟨ds, x, rfl, rfl, HI, HB⟩ := hrel
    have hx0 := HI.out.1
    have hk := HI.out.pos
    obtain ⟨k, rfl⟩ : ∃ k, gk = k + 1 := ⟨gk - 1, by omega⟩
    have hm0 : 0 ≤ x % 10 := by omega
    have hm1 : x % 10 < 10 := by omega
    have hs : (strOfNums ds).size ≤ 1000 := by have := HI.out.2.2; rw [strOfNums_size]; obtain ⟨m, _, _, _, h5, _⟩ := this; omega
    have hs1 : (strOfNums [48 + x % 10]).size ≤ 1 := by rw [strOfNums_size]; simp
    have hcv := pascalineref01_Text.conv wr (48 + x % 10)
    have hxn : x ≤ n := by obtain ⟨m, _, _, _, _, h6⟩ := HI.out.2.2; exact h6
    obtain ⟨hb0, hb1⟩ := hb
    by_cases hz : x / 10 = 0
    ·
     have hzb : (x / 10 == 0) = true := beq_iff_eq.mpr hz
     have HE := mK (HI.out.step.1 hz)
     clear hz
     go_wp2
     go_ret
     exact ⟨by rw [← HR.out, HT.out, HE.out, ← pascalineref01_Text.join]; rfl, bA HB.out _⟩
    ·
     have hzb : (x / 10 == 0) = false := bQ hz
     have HE := mK (HI.out.step.2 hz)
     clear hz
     go_wp2
     go_roundg k
     case measure => omega
     case rel => exact ⟨(48 + x % 10) :: ds, x / 10, by rw [pascalineref01_Text.join], rfl, HE, ⟨bA HB.out _⟩⟩
 ·
  rw [if_neg hb] at h; cases h

end Go.Proofs.Ytmebogkhdbbbbaa.P

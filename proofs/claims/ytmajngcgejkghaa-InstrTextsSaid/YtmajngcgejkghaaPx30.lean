/- Printed parts. -/
import Derived.Test.YtmajngcgejkghaaPx0
import Derived.Test.YtmajngcgejkghaaCCf
import Derived.Test.YtmajngcgejkghaaPx1
import Derived.Test.YtmajngcgejkghaaPx17
import Derived.Test.YtmajngcgejkghaaPx13
namespace Go.Proofs.Ytmajngcgejkghaa.P
open Go.RowKit Go.Proofs.YtmajngcgejkghaaW.PrintWords Go.Proofs.YtmajngcgejkghaaW.PrintLast Go.Proofs.YtmajngcgejkghaaW.PrintMore
attribute [local go_sem] max2_int min2_int max_two min_two max_three min_three max_four min_four   -- for this text's walks alone
set_option linter.unusedVariables false
set_option linter.unusedSimpArgs false

/-! ### word_digits: function 43 -/
open Go.Proofs.Ytmajngcgejkghaa.C
def word_digits.f (n b least : Int) : Option ByteArray :=
 if b = 10 ∨ b = 16 then (if (0 ≤ n ∧ n < 18446744073709551616) ∧ 1 ≤ least ∧ least ≤ 64 then some (strOfNums (digs b 65 n (min 64 (max least 1).toNat))) else none) else none

theorem word_digits.inv {n b least : Int} {r : ByteArray} (h : word_digits.f n b least = some r) : (2 ≤ b ∧ b ≤ 16) ∧ (0 ≤ n ∧ n < 18446744073709551616) ∧ (1 ≤ least ∧ least ≤ 64) ∧ r = strOfNums (digs b 65 n (min 64 (max least 1).toNat)) := by
 unfold word_digits.f at h
 by_cases h1 : b = 10 ∨ b = 16
 ·
  rw [if_pos h1] at h
  by_cases h2 : (0 ≤ n ∧ n < 18446744073709551616) ∧ 1 ≤ least ∧ least ≤ 64
  ·
   rw [if_pos h2] at h
   injection h with h
   exact ⟨by omega, h2.1, h2.2, h.symm⟩
  ·
   rw [if_neg h2] at h; cases h
 ·
  rw [if_neg h1] at h; cases h

def word_digits.Inv (w w' : World) (g : Nat) (b n : Int) (m0 : Nat) (x : Int) (a : Nat) (xs : List Int) : Prop :=
 a ≤ 64 ∧ 0 ≤ x ∧ x < 2 ^ a ∧ xs.length = 64 ∧ w'.heap[g]? = some (.cells (nums .u8 xs).toArray 78 (0, 0)) ∧ digs b (a + 1) x (m0 - (64 - a)) ++ xs.drop a = digs b 65 n m0 ∧ Below w.heap.size w w'

theorem word_digits.Inv.cell {w w' : World} {g : Nat} {b n : Int} {m0 : Nat} {x : Int} {a : Nat} {xs : List Int} (h : word_digits.Inv w w' g b n m0 x a xs) (ha : 1 ≤ a) :
 w'.cell? ⟨g, a - 1, none⟩ = some (.int .u8 (xs.getD (a - 1) 0)) := by
 rw [kC h.2.2.2.2.1]
 have h1 := h.1
 have h2 := h.2.2.2.1
 have h3 : a - 1 < xs.length := by omega
 simp [nums, List.getD_eq_getElem?_getD, h3]
theorem word_digits.Inv.free {w w' : World} {g : Nat} {b n : Int} {m0 : Nat} {x : Int} {a : Nat} {xs : List Int} (h : word_digits.Inv w w' g b n m0 x a xs) :
 w'.frozen? ⟨g, a - 1, none⟩ = false := kF h.2.2.2.2.1 _
theorem word_digits.Inv.step {w w' : World} {b n : Int} {m0 : Nat} {x x' : Int} {a : Nat} {xs : List Int} {v : Int} (h : word_digits.Inv w w' w.heap.size b n m0 x a xs) (ha : 1 ≤ a) (hb : 2 ≤ b) (hc : 0 < x ∨ 0 < m0 - (64 - a))
 (hv : v = dg (x % b)) (hx : x' = x / b) : word_digits.Inv w (w'.setCell ⟨w.heap.size, a - 1, none⟩ (.int .u8 v)) w.heap.size b n m0 x' (a - 1) (xs.set (a - 1) v) := by
 obtain ⟨h1, h2, h3, h4, h5, h6, h7⟩ := h
 obtain ⟨c, rfl⟩ : ∃ c, a = c + 1 := ⟨a - 1, by omega⟩
 have hd := digs_inv b hb x c h2 h3
 subst hx
 refine ⟨by omega, hd.1, hd.2, by simpa using h4, ?_, ?_, ?_⟩
 ·
  rw [blk_set h5]; congr 2; simp [nums]
 ·
  rw [← h6, digs_succ b (c + 1), if_pos hc, hv]
  have e1 : c + 1 - 1 = c := by omega
  have e2 : m0 - (64 - (c + 1)) - 1 = m0 - (64 - c) := by omega
  rw [e1, e2, List.append_assoc]
  congr 1
  rw [List.drop_set, if_neg (by omega)]
  have h8 : c < xs.length := by omega
  rw [List.drop_eq_getElem_cons h8]
  simp only [Nat.sub_self, List.set_cons_zero]
  rfl
 ·
  exact h7.setCell (Nat.le_refl _) _
theorem word_digits.Inv.final {w w' : World} {g : Nat} {b n : Int} {m0 : Nat} {x : Int} {a : Nat} {xs : List Int} (h : word_digits.Inv w w' g b n m0 x a xs) (hc : ¬ (0 < x ∨ 0 < m0 - (64 - a))) : xs.drop a = digs b 65 n m0 := by
 rw [← h.2.2.2.2.2.1, digs_succ, if_neg hc]; rfl
theorem word_digits.Inv.conv {w w' : World} {g : Nat} {b n : Int} {m0 : Nat} {x : Int} {a : Nat} {xs : List Int} (h : word_digits.Inv w w' g b n m0 x a xs) (hc : ¬ (0 < x ∨ 0 < m0 - (64 - a))) (src e dst : Nat) (hs : Try.prog.underlying src = some (.slice e)) (he : Try.prog.underlying e = some (.int .u8)) (hd : Try.prog.underlying dst = some .string) :
 (convert src dst (.slice (some ⟨g, a, none⟩) (64 - a) (64 - a))).run Try.prog w' = .ok (.string (strOfNums (digs b 65 n m0))) w' := by
 have hl := h.2.2.2.1
 rw [← h.final hc]
 refine run_convert_bytes_arg w' src e hs he g a _ _ (xs.drop a) (by simp [hl]) (fun i hi => ?_) dst hd
 rw [kC h.2.2.2.2.1]
 have h3 : a + i < xs.length := by omega
 simp [nums, List.getD_eq_getElem?_getD, h3]

theorem word_digits.wrap_div (x b : Int) (h0 : 0 ≤ x) (h1 : x < 2 ^ 64) (hb : 2 ≤ b) : IntKind.u64.wrap (x.tdiv b) = x / b := by
 rw [Int.tdiv_eq_ediv_of_nonneg h0]
 have hd := digs_inv b hb x 63 h0 h1
 have : (2:Int)^63 = 9223372036854775808 := by decide
 exact IntWalk.u64_in _ (by omega)

theorem word_digits.cut_arr {P : Program} (t e len : Nat) (kl : IntKind) (ht : P.underlying t = some (.array len e)) (hinfo : (P.info? e).map (fun i => i.size) = some 1) (g a : Nat) (h : a < len) :
 ∀ W : World, (Instr.sliceAt t (.pointer (some ⟨g, 0, none⟩)) (some (.int kl (a : Int))) none none).run P W = .ok (.slice (some ⟨g, a, none⟩) (len - a) (len - a)) W := by
 intro W
 obtain ⟨i, hi, hsz⟩ := Option.map_eq_some_iff.1 hinfo
 have hel : P.elem t = e := by simp [Program.elem, ht]
 have hle : P.arrayLen t = len := by simp [Program.arrayLen, ht]
 have hu : P.underlying t = some (.array (P.arrayLen t) (P.elem t)) := by rw [hel, hle]; exact ht
 rw [run_sliceAt_array_l W t ⟨g, 0, none⟩ hu kl (a : Int) (Int.natCast_nonneg _) (by omega), hel, hle]
 simp [sizeOf, typeInfo, hi, hsz, slicedAt, Result.andThen, add_plain]
 omega

set_option maxHeartbeats 400000 in
set_option maxRecDepth 100000 in
theorem word_digits.calls (n b least : Int) (r : ByteArray) (w : World) (h : word_digits.f n b least = some r) :
 Calls Try.prog 43 #[.int .u64 n, .int .u64 b, .int .i64 least] w fun e w' => e = .returned (.string r) ∧ Below w.heap.size w w' := by
 obtain ⟨⟨hb2, hb16⟩, hn, ⟨hl1, hl64⟩, hr⟩ := word_digits.inv h
 have HR := mK hr
 have HN := mK hn
 clear hn hr h
 go_enter Try.func43, Try.ntmps43
 go_wp2
 go_loopg [0, 8] 65 (fun kq v0 v8 w' => ∃ (x : Int) (a : Nat) (xs : List Int), v0 = .int .u64 x ∧ v8 = .int .i64 a ∧ Aside0 (kq = a + 1) ∧ Aside0 (word_digits.Inv w w' w.heap.size b n (min 64 (max least 1).toNat) x a xs))
 case atStart =>
  refine ⟨n, 64, List.replicate 64 0, rfl, rfl, ⟨rfl⟩, ⟨by omega, HN.out.1, by have := HN.out.2; omega, rfl, ?_, ?_, ?_⟩⟩
  ·
   rw [blk_new]; rfl
  ·
   simp
  ·
   exact bA (Below.refl _ _) _
 case round =>
  obtain ⟨x, a, xs, rfl, rfl, HK, HI⟩ := hrel
  have ha := HI.out.1
  have hx0 := HI.out.2.1
  by_cases hc : 0 < x ∨ 0 < min 64 (max least 1).toNat - (64 - a)
  ·
   have ha1 : 1 ≤ a := by
    rcases hc with hc | hc
    ·
     have := HI.out.2.2.1
     rcases Nat.eq_zero_or_pos a with h0 | h0
     ·
      subst h0; simp at this; omega
     ·
      exact h0
    ·
     omega
   have hcell := HI.out.cell ha1
   have hfree := HI.out.free
   have hm0 : 0 ≤ x % b := Int.emod_nonneg _ (by omega)
   have hm1 : x % b < b := Int.emod_lt_of_pos _ (by omega)
   have HX : Aside0 (IntKind.u64.wrap (x.tdiv b) = x / b) := ⟨word_digits.wrap_div x b hx0 (Int.lt_of_lt_of_le HI.out.2.2.1 (by exact_mod_cast Nat.pow_le_pow_right (by omega) ha)) hb2⟩
   by_cases hd : x % b < 10
   all_goals
    by_cases hc1 : 0 < x
    ·
     have hc1b : decide (0 < x) = true := decide_eq_true hc1
     have HC := mK hc
     clear hc
     go_wp2
     go_roundg a
     case measure => have := HK.out; omega
     case rel => exact ⟨_, a - 1, _, rfl, by congr 1; omega, ⟨by omega⟩, ⟨HI.out.step ha1 hb2 HC.out (by first | exact dg_lo _ hd | exact dg_hi _ hd) (by first | exact HX.out | rfl)⟩⟩
    ·
     have hc1b : decide (0 < x) = false := decide_eq_false hc1
     have h63 : 64 - least < a := by omega
     have HC := mK hc
     clear hc
     go_wp2
     go_roundg a
     case measure => have := HK.out; omega
     case rel => exact ⟨_, a - 1, _, rfl, by congr 1; omega, ⟨by omega⟩, ⟨HI.out.step ha1 hb2 HC.out (by first | exact dg_lo _ hd | exact dg_hi _ hd) (by first | exact HX.out | rfl)⟩⟩
  ·
   have hc1 : ¬ 0 < x := by omega
   have hc1b : decide (0 < x) = false := decide_eq_false hc1
   have ha63 : a < 64 := by omega
   have hsl := word_digits.cut_arr (P := Try.prog) 78 5 64 .i64 Try.underlying78 (by kernel_rfl) w.heap.size a ha63
   have hcv := HI.out.conv hc 75 5 9 Try.underlying75 Try.underlying5 Try.underlying9
   have h63 : ¬ 64 - least < a := by omega
   have HC := mK hc
   clear hc
   go_wp2
   go_ret
   exact ⟨by rw [HR.out]; rfl, HI.out.2.2.2.2.2.2⟩

end Go.Proofs.Ytmajngcgejkghaa.P

namespace Go.Proofs.Ytmajngcgejkghaa.P
open Go.RowKit Go.Proofs.YtmajngcgejkghaaW.PrintWords Go.Proofs.YtmajngcgejkghaaW.PrintLast Go.Proofs.YtmajngcgejkghaaW.PrintMore
attribute [local go_sem] max2_int min2_int max_two min_two max_three min_three max_four min_four   -- for this text's walks alone
set_option linter.unusedVariables false
set_option linter.unusedSimpArgs false

/-! ### word_Text: function 41 -/
def word_Text.f (a0 : Int) : Option (ByteArray) := if a0 < 0 then ((word_digits.f (IntKind.u64.wrap (wrap64 (-a0))) 10 1).bind fun t238 => (if 1 + t238.size ≤ 9223372036854775807 then (some ((⟨#[45]⟩ : ByteArray) ++ t238)) else (none))) else ((word_digits.f (IntKind.u64.wrap (a0)) 10 1).bind fun t239 => (some t239))
set_option maxHeartbeats 8000000 in
set_option maxRecDepth 100000 in
theorem word_Text.calls (a0 : Int) (r : ByteArray) (w : World) (h : word_Text.f a0 = some r) :
 Calls Try.prog 41 #[.int .i64 a0] w fun e w' => e = .returned (.string r) ∧ Below w.heap.size w w' := by
 have HB := mK (Below.refl w.heap.size w)
 have H : (if a0 < 0 then ((word_digits.f (IntKind.u64.wrap (wrap64 (-a0))) 10 1).bind fun t238 => (if 1 + t238.size ≤ 9223372036854775807 then (some ((⟨#[45]⟩ : ByteArray) ++ t238)) else (none))) else ((word_digits.f (IntKind.u64.wrap (a0)) 10 1).bind fun t239 => (some t239))) = some r := h
 clear h
 by_cases c2 : a0 < 0
 ·
  rw [if_pos c2] at H
  have c2b0 : decide (a0 < 0) = true := decide_eq_true c2
  clear c2
  replace H := oB H
  obtain ⟨t238, A30, H⟩ := H
  replace H : (if 1 + t238.size ≤ 9223372036854775807 then (some ((⟨#[45]⟩ : ByteArray) ++ t238)) else (none)) = some r := H
  have A3 := mK A30
  clear A30
  by_cases c4 : 1 + t238.size ≤ 9223372036854775807
  ·
   rw [if_pos c4] at H
   have c4b0 := eq_true c4
   have c4b1 : decide (1 + t238.size ≤ 9223372036854775807) = true := decide_eq_true c4
   try have c4b2 : (9223372036854775807 < 1 + t238.size) = False := eq_false (Nat.not_lt.2 c4)
   obtain rfl := Option.some.inj H
   go_enter Try.func41, Try.ntmps41
   go_wp2_with (first | ((with_reducible refine gate_callee (f := 43) rfl ?_); refine goesL_ (some 8) rfl rfl Try.func43 (by kernel_rfl) rfl #[.int .u64 (IntKind.u64.wrap (wrap64 (-a0))), .int .u64 10, .int .i64 1] rfl (by (try simp only [List.map_toArray, List.map_cons, List.map_nil]); first | done | rfl) ?_; (with_reducible refine (word_digits.calls (IntKind.u64.wrap (wrap64 (-a0))) 10 1 t238 _ A3.out).mono ?_); rintro e w5 ⟨rfl, hb⟩; refine ⟨_, rfl, ?_⟩; have n0_ := mK (bP (by repeat (first | (with_reducible first | exact HB.out | apply bA | apply bN | apply bD) | exact HB.out)) hb); clear HB; have HB := n0_; clear n0_; (try clear hb)))
   go_ret
   exact ⟨by first | rfl | (simp [errW_none, errW_some] <;> rfl) | (simp [*, errW_none, errW_some] <;> rfl), by repeat (first | (with_reducible first | exact HB.out | apply bA | apply bN | apply bD) | exact HB.out)⟩
  ·
   rw [if_neg c4] at H
   exact absurd H (by simp)
 ·
  rw [if_neg c2] at H
  have c2b0 : decide (a0 < 0) = false := decide_eq_false c2
  clear c2
  replace H := oB H
  obtain ⟨t239, A60, H⟩ := H
  replace H : (some t239) = some r := H
  have A6 := mK A60
  clear A60
  obtain rfl := Option.some.inj H
  go_enter Try.func41, Try.ntmps41
  go_wp2_with (first | ((with_reducible refine gate_callee (f := 43) rfl ?_); refine goesL_ (some 12) rfl rfl Try.func43 (by kernel_rfl) rfl #[.int .u64 (IntKind.u64.wrap (a0)), .int .u64 10, .int .i64 1] rfl (by (try simp only [List.map_toArray, List.map_cons, List.map_nil]); first | done | rfl) ?_; (with_reducible refine (word_digits.calls (IntKind.u64.wrap (a0)) 10 1 t239 _ A6.out).mono ?_); rintro e w7 ⟨rfl, hb⟩; refine ⟨_, rfl, ?_⟩; have n0_ := mK (bP (by repeat (first | (with_reducible first | exact HB.out | apply bA | apply bN | apply bD) | exact HB.out)) hb); clear HB; have HB := n0_; clear n0_; (try clear hb)))
  go_ret
  exact ⟨by first | rfl | (simp [errW_none, errW_some] <;> rfl) | (simp [*, errW_none, errW_some] <;> rfl), by repeat (first | (with_reducible first | exact HB.out | apply bA | apply bN | apply bD) | exact HB.out)⟩

end Go.Proofs.Ytmajngcgejkghaa.P

namespace Go.Proofs.Ytmajngcgejkghaa.P
open Go.RowKit Go.Proofs.YtmajngcgejkghaaW.PrintWords Go.Proofs.YtmajngcgejkghaaW.PrintLast Go.Proofs.YtmajngcgejkghaaW.PrintMore
attribute [local go_sem] max2_int min2_int max_two min_two max_three min_three max_four min_four   -- for this text's walks alone
set_option linter.unusedVariables false
set_option linter.unusedSimpArgs false

/-! ### instr_fields: function 32 -/
mutual
def instr_fields.j0 : Nat → ByteArray → ByteArray → ByteArray → ByteArray → Int → Int → Int → Int → Int → Option (List ByteArray)
 | 0, _, _, _, _, _, _, _, _, _ => none
 | k + 1, x3, x4, x5, x6, x241000, x241001, x241002, x241003, x241004 => (instr_Shape.f k x241000).bind fun t246 => (if t246 = 1 then (instr_fields.j1 k x3 x4 x5 x6 t246 (t246 == 1)) else (instr_fields.j1 k x3 x4 x5 x6 t246 (t246 == 2)))
def instr_fields.j1 : Nat → ByteArray → ByteArray → ByteArray → ByteArray → Int → Bool → Option (List ByteArray)
 | 0, _, _, _, _, _, _ => none
 | k + 1, x3, x4, x5, x6, x30, x31 => if x31 = true then (some (([x3, x6] : List ByteArray))) else (if x30 = 3 then (instr_fields.j2 k x3 x4 x5 x6 x30 (x30 == 3)) else (instr_fields.j2 k x3 x4 x5 x6 x30 (x30 == 4)))
def instr_fields.j2 : Nat → ByteArray → ByteArray → ByteArray → ByteArray → Int → Bool → Option (List ByteArray)
 | 0, _, _, _, _, _, _ => none
 | k + 1, x3, x4, x5, x6, x30, x37 => if x37 = true then (some (([x3, x4, x6] : List ByteArray))) else (if x30 = 5 then (some (([x3, x4, x5] : List ByteArray))) else (if x30 = 6 then (some (([x3] : List ByteArray))) else (if x30 = 7 then (some (([x6] : List ByteArray))) else (if x30 = 8 then (some (([x6] : List ByteArray))) else (some ([] : List ByteArray))))))
end
def instr_fields.f (k : Nat) (a0_0 : Int) (a0_1 : Int) (a0_2 : Int) (a0_3 : Int) (a0_4 : Int) : Option (List ByteArray) := (word_Text.f a0_1).bind fun t241 => (if 1 + t241.size ≤ 9223372036854775807 then ((word_Text.f a0_2).bind fun t242 => (if 1 + t242.size ≤ 9223372036854775807 then ((word_Text.f a0_3).bind fun t243 => (if 1 + t243.size ≤ 9223372036854775807 then ((word_Text.f a0_4).bind fun t244 => (if a0_0 = 26 then ((word_Text.f a0_2).bind fun t245 => (instr_fields.j0 k ((⟨#[114]⟩ : ByteArray) ++ t241) t245 ((⟨#[114]⟩ : ByteArray) ++ t243) t244 a0_0 a0_1 a0_2 a0_3 a0_4)) else (instr_fields.j0 k ((⟨#[114]⟩ : ByteArray) ++ t241) ((⟨#[114]⟩ : ByteArray) ++ t242) ((⟨#[114]⟩ : ByteArray) ++ t243) t244 a0_0 a0_1 a0_2 a0_3 a0_4))) else (none))) else (none))) else (none))
theorem instr_fields.mono_l : ∀ k, (∀ y0 y1 y2 y3 y4 y5 y6 y7 y8, LeO (instr_fields.j0 k y0 y1 y2 y3 y4 y5 y6 y7 y8) (instr_fields.j0 (k + 1) y0 y1 y2 y3 y4 y5 y6 y7 y8)) ∧ (∀ y0 y1 y2 y3 y4 y5, LeO (instr_fields.j1 k y0 y1 y2 y3 y4 y5) (instr_fields.j1 (k + 1) y0 y1 y2 y3 y4 y5)) ∧ (∀ y0 y1 y2 y3 y4 y5, LeO (instr_fields.j2 k y0 y1 y2 y3 y4 y5) (instr_fields.j2 (k + 1) y0 y1 y2 y3 y4 y5))
 | 0 => ⟨fun _ _ _ _ _ _ _ _ _ r h => by simp [instr_fields.j0] at h, fun _ _ _ _ _ _ r h => by simp [instr_fields.j1] at h, fun _ _ _ _ _ _ r h => by simp [instr_fields.j2] at h⟩
 | k + 1 => by
  obtain ⟨ih0, ih1, ih2⟩ := instr_fields.mono_l k
  refine ⟨?_, ?_, ?_⟩
  ·
   intro y0 y1 y2 y3 y4 y5 y6 y7 y8
   unfold instr_fields.j0
   repeat' first
   | (with_reducible exact ih0 _ _ _ _ _ _ _ _ _)
   | (with_reducible exact ih1 _ _ _ _ _ _)
   | (with_reducible exact ih2 _ _ _ _ _ _)
   | (with_reducible exact instr_Shape.mono _ _)
   | (with_reducible exact LeO.refl _)
   | (with_reducible exact LeO.none _)
   | (with_reducible refine LeO.ite ?_ ?_)
   | (with_reducible refine LeO.bind ?_ (fun _ => ?_))
   | exact LeO.none _
   | refine LeO.ite ?_ ?_
   | refine LeO.bind ?_ (fun _ => ?_)
  ·
   intro y0 y1 y2 y3 y4 y5
   unfold instr_fields.j1
   repeat' first
   | (with_reducible exact ih0 _ _ _ _ _ _ _ _ _)
   | (with_reducible exact ih1 _ _ _ _ _ _)
   | (with_reducible exact ih2 _ _ _ _ _ _)
   | (with_reducible exact instr_Shape.mono _ _)
   | (with_reducible exact LeO.refl _)
   | (with_reducible exact LeO.none _)
   | (with_reducible refine LeO.ite ?_ ?_)
   | (with_reducible refine LeO.bind ?_ (fun _ => ?_))
   | exact LeO.none _
   | refine LeO.ite ?_ ?_
   | refine LeO.bind ?_ (fun _ => ?_)
  ·
   intro y0 y1 y2 y3 y4 y5
   unfold instr_fields.j2
   repeat' first
   | (with_reducible exact ih0 _ _ _ _ _ _ _ _ _)
   | (with_reducible exact ih1 _ _ _ _ _ _)
   | (with_reducible exact ih2 _ _ _ _ _ _)
   | (with_reducible exact instr_Shape.mono _ _)
   | (with_reducible exact LeO.refl _)
   | (with_reducible exact LeO.none _)
   | (with_reducible refine LeO.ite ?_ ?_)
   | (with_reducible refine LeO.bind ?_ (fun _ => ?_))
   | exact LeO.none _
   | refine LeO.ite ?_ ?_
   | refine LeO.bind ?_ (fun _ => ?_)
theorem instr_fields.mono : ∀ a0 a1 a2 a3 a4 k, LeO (instr_fields.f k a0 a1 a2 a3 a4) (instr_fields.f (k + 1) a0 a1 a2 a3 a4) := by
 intro a0 a1 a2 a3 a4 k
 obtain ⟨ih0, ih1, ih2⟩ := instr_fields.mono_l k
 unfold instr_fields.f
 repeat' first
  | (with_reducible exact ih0 _ _ _ _ _ _ _ _ _)
  | (with_reducible exact ih1 _ _ _ _ _ _)
  | (with_reducible exact ih2 _ _ _ _ _ _)
  | (with_reducible exact instr_Shape.mono _ _)
  | (with_reducible exact LeO.refl _)
  | (with_reducible exact LeO.none _)
  | (with_reducible refine LeO.ite ?_ ?_)
  | (with_reducible refine LeO.bind ?_ (fun _ => ?_))
  | exact LeO.none _
  | refine LeO.ite ?_ ?_
  | refine LeO.bind ?_ (fun _ => ?_)
def instr_fields.T1 : Bool × List (List Nat × List Nat) := (true, [([], []), ([0], [0]), ([1], [1]), ([2], [2]), ([], []), ([4], [4]), ([5, 2], [5]), ([6], [6]), ([], []), ([8], [8]), ([9, 6], [9]), ([10], [10]), ([], []), ([12], [12]), ([13, 10], [13]), ([3, 14, 0, 1, 2, 3], [3]), ([7, 15, 0, 1, 2, 3, 4, 5, 6, 7, 15], [7]), ([11, 16, 0, 1, 2, 3, 4, 5, 6, 7, 8, 9, 10, 11, 15, 16], [11]), ([14, 17, 0, 1, 2, 3, 4, 5, 6, 7, 8, 9, 10, 11, 12, 13, 14, 15, 16, 17], [14])])
def instr_fields.B1 : List Nat := [0, 1, 3, 7, 0, 16, 55, 119, 0, 256, 887, 1911, 0, 4096, 14199, 30591, 63487, 131071, 262143]
theorem instr_fields.tab1 : rtab .any (opsOf Try.f32 1) = instr_fields.T1 := by kernel_rfl
theorem instr_fields.bits1 : waitsOk instr_fields.T1.2 instr_fields.B1 = true := by kernel_rfl
set_option maxHeartbeats 8000000 in
set_option maxRecDepth 100000 in
theorem instr_fields.calls (k : Nat) (a0_0 : Int) (a0_1 : Int) (a0_2 : Int) (a0_3 : Int) (a0_4 : Int) (r : List ByteArray) (w : World) (h : instr_fields.f k a0_0 a0_1 a0_2 a0_3 a0_4 = some r) :
 Calls Try.prog 32 #[.agg #[.int .i64 a0_0, .int .i64 a0_1, .int .i64 a0_2, .int .i64 a0_3, .int .i64 a0_4]] w fun e w' => ∃ v0_ : Value, e = .returned (v0_) ∧ Kd.R Kd.string 9 w' w.heap.size (fun _ => True) v0_ r ∧ Below w.heap.size w w' := by
 have hu23 := Try.underlying23
 have HB := mK (Below.refl w.heap.size w)
 have H : ((word_Text.f a0_1).bind fun t241 => (if 1 + t241.size ≤ 9223372036854775807 then ((word_Text.f a0_2).bind fun t242 => (if 1 + t242.size ≤ 9223372036854775807 then ((word_Text.f a0_3).bind fun t243 => (if 1 + t243.size ≤ 9223372036854775807 then ((word_Text.f a0_4).bind fun t244 => (if a0_0 = 26 then ((word_Text.f a0_2).bind fun t245 => (instr_fields.j0 k ((⟨#[114]⟩ : ByteArray) ++ t241) t245 ((⟨#[114]⟩ : ByteArray) ++ t243) t244 a0_0 a0_1 a0_2 a0_3 a0_4)) else (instr_fields.j0 k ((⟨#[114]⟩ : ByteArray) ++ t241) ((⟨#[114]⟩ : ByteArray) ++ t242) ((⟨#[114]⟩ : ByteArray) ++ t243) t244 a0_0 a0_1 a0_2 a0_3 a0_4))) else (none))) else (none))) else (none))) = some r := h
 clear h
 replace H := oB H
 obtain ⟨t241, A20, H⟩ := H
 replace H : (if 1 + t241.size ≤ 9223372036854775807 then ((word_Text.f a0_2).bind fun t242 => (if 1 + t242.size ≤ 9223372036854775807 then ((word_Text.f a0_3).bind fun t243 => (if 1 + t243.size ≤ 9223372036854775807 then ((word_Text.f a0_4).bind fun t244 => (if a0_0 = 26 then ((word_Text.f a0_2).bind fun t245 => (instr_fields.j0 k ((⟨#[114]⟩ : ByteArray) ++ t241) t245 ((⟨#[114]⟩ : ByteArray) ++ t243) t244 a0_0 a0_1 a0_2 a0_3 a0_4)) else (instr_fields.j0 k ((⟨#[114]⟩ : ByteArray) ++ t241) ((⟨#[114]⟩ : ByteArray) ++ t242) ((⟨#[114]⟩ : ByteArray) ++ t243) t244 a0_0 a0_1 a0_2 a0_3 a0_4))) else (none))) else (none))) else (none)) = some r := H
 have A2 := mK A20
 clear A20
 by_cases c3 : 1 + t241.size ≤ 9223372036854775807
 ·
  rw [if_pos c3] at H
  have c3b0 := eq_true c3
  have c3b1 : decide (1 + t241.size ≤ 9223372036854775807) = true := decide_eq_true c3
  try have c3b2 : (9223372036854775807 < 1 + t241.size) = False := eq_false (Nat.not_lt.2 c3)
  replace H := oB H
  obtain ⟨t242, A40, H⟩ := H
  replace H : (if 1 + t242.size ≤ 9223372036854775807 then ((word_Text.f a0_3).bind fun t243 => (if 1 + t243.size ≤ 9223372036854775807 then ((word_Text.f a0_4).bind fun t244 => (if a0_0 = 26 then ((word_Text.f a0_2).bind fun t245 => (instr_fields.j0 k ((⟨#[114]⟩ : ByteArray) ++ t241) t245 ((⟨#[114]⟩ : ByteArray) ++ t243) t244 a0_0 a0_1 a0_2 a0_3 a0_4)) else (instr_fields.j0 k ((⟨#[114]⟩ : ByteArray) ++ t241) ((⟨#[114]⟩ : ByteArray) ++ t242) ((⟨#[114]⟩ : ByteArray) ++ t243) t244 a0_0 a0_1 a0_2 a0_3 a0_4))) else (none))) else (none)) = some r := H
  have A4 := mK A40
  clear A40
  by_cases c5 : 1 + t242.size ≤ 9223372036854775807
  ·
   rw [if_pos c5] at H
   have c5b0 := eq_true c5
   have c5b1 : decide (1 + t242.size ≤ 9223372036854775807) = true := decide_eq_true c5
   try have c5b2 : (9223372036854775807 < 1 + t242.size) = False := eq_false (Nat.not_lt.2 c5)
   replace H := oB H
   obtain ⟨t243, A60, H⟩ := H
   replace H : (if 1 + t243.size ≤ 9223372036854775807 then ((word_Text.f a0_4).bind fun t244 => (if a0_0 = 26 then ((word_Text.f a0_2).bind fun t245 => (instr_fields.j0 k ((⟨#[114]⟩ : ByteArray) ++ t241) t245 ((⟨#[114]⟩ : ByteArray) ++ t243) t244 a0_0 a0_1 a0_2 a0_3 a0_4)) else (instr_fields.j0 k ((⟨#[114]⟩ : ByteArray) ++ t241) ((⟨#[114]⟩ : ByteArray) ++ t242) ((⟨#[114]⟩ : ByteArray) ++ t243) t244 a0_0 a0_1 a0_2 a0_3 a0_4))) else (none)) = some r := H
   have A6 := mK A60
   clear A60
   by_cases c7 : 1 + t243.size ≤ 9223372036854775807
   ·
    rw [if_pos c7] at H
    have c7b0 := eq_true c7
    have c7b1 : decide (1 + t243.size ≤ 9223372036854775807) = true := decide_eq_true c7
    try have c7b2 : (9223372036854775807 < 1 + t243.size) = False := eq_false (Nat.not_lt.2 c7)
    replace H := oB H
    obtain ⟨t244, A80, H⟩ := H
    replace H : (if a0_0 = 26 then ((word_Text.f a0_2).bind fun t245 => (instr_fields.j0 k ((⟨#[114]⟩ : ByteArray) ++ t241) t245 ((⟨#[114]⟩ : ByteArray) ++ t243) t244 a0_0 a0_1 a0_2 a0_3 a0_4)) else (instr_fields.j0 k ((⟨#[114]⟩ : ByteArray) ++ t241) ((⟨#[114]⟩ : ByteArray) ++ t242) ((⟨#[114]⟩ : ByteArray) ++ t243) t244 a0_0 a0_1 a0_2 a0_3 a0_4)) = some r := H
    have A8 := mK A80
    clear A80
    have HC9 := mK H
    clear H
    go_enter Try.func32, Try.ntmps32
    try go_wp2_with (first | ((with_reducible refine gate_dst (N := 1) rfl ?_); refine box_event ?hg (N := 1) ?hd (cs := #[.int .i64 a0_0, .int .i64 a0_1, .int .i64 a0_2, .int .i64 a0_3, .int .i64 a0_4]) (t := 23) ?hr ?_; (case hd => rfl); (case hg => rfl); (case hr => first | (go_simp; done) | (go_simp; rfl)); intro gb240 hg w10 hbox hb; have n0_ := mK (bP (by repeat (first | (with_reducible first | exact HB.out | apply bA | apply bN | apply bD) | exact HB.out)) hb); have n1_ := mK (hbox); have n2_ := mK ((by rw [hg]; exact (bZ (by repeat (first | (with_reducible first | exact HB.out | apply bA | apply bN | apply bD) | exact HB.out))) : w.heap.size ≤ gb240)); have n3_ := mK ((by rw [hg]; exact (bZ (by repeat (first | (with_reducible first | exact HB.out | apply bA | apply bN | apply bD) | exact HB.out))) : w.heap.size ≤ gb240)); clear HB; have HB := n0_; have BK240 := n1_; have GW240 := n2_; have GE240 := n3_; clear n0_ n1_ n2_ n3_; clear hb hbox hg))
    have n0_ := mK (kD BK240.out)
    have n1_ := mK (bD HB.out)
    clear BK240
    clear HB
    have BK240 := n0_
    have HB := n1_
    clear n0_ n1_
    refine start_ (n := 19) (S := fun w' => w'.cell? ⟨gb240, 0, none⟩ = some (.int .i64 a0_0) ∧ w'.cell? ⟨gb240, 1, none⟩ = some (.int .i64 a0_1) ∧ w'.cell? ⟨gb240, 2, none⟩ = some (.int .i64 a0_2) ∧ w'.cell? ⟨gb240, 3, none⟩ = some (.int .i64 a0_3) ∧ w'.cell? ⟨gb240, 4, none⟩ = some (.int .i64 a0_4)) (ds := []) #[false, false, false, false, false, false, false, false, false, false, false, false, false, false, false, false, false, false, false] (by kernel_rfl) rfl rfl ⟨(kC BK240.out 0).trans rfl, (kC BK240.out 1).trans rfl, (kC BK240.out 2).trans rfl, (kC BK240.out 3).trans rfl, (kC BK240.out 4).trans rfl⟩ (fun hHeld => ?_); refine with_tabW instr_fields.tab1 instr_fields.bits1 (fun HT_ HW_ => ?_)
    generalize w10.drew = w11 at BK240 HB hHeld ⊢
    refine pure_ (i := 0) (N := some 7) (v := ?_) (a' := ?_) #[true, false, false, false, false, false, false, false, false, false, false, false, false, false, false, false, false, false, false] rfl rfl (any_of HT_.out (by kernel_rfl)) (fun _ _ _ h => h) (Or.inl ⟨by rfl, ?_⟩) ?_ ?_
    rotate_left
    ·
     intro w'
     go_simp
     with_reducible rfl
    rotate_left
    ·
     simp only [Act.put, List.setIfInBounds_toArray, List.set_cons_zero, List.set_cons_succ, i64_w, i32_w]
     rfl
    refine pure_ (i := 4) (N := some 11) (v := ?_) (a' := ?_) #[true, false, false, false, true, false, false, false, false, false, false, false, false, false, false, false, false, false, false] rfl rfl (any_of HT_.out (by kernel_rfl)) (fun _ _ _ h => h) (Or.inl ⟨by rfl, ?_⟩) ?_ ?_
    rotate_left
    ·
     intro w'
     go_simp
     with_reducible rfl
    rotate_left
    ·
     simp only [Act.put, List.setIfInBounds_toArray, List.set_cons_zero, List.set_cons_succ, i64_w, i32_w]
     rfl
    refine pure_ (i := 8) (N := some 15) (v := ?_) (a' := ?_) #[true, false, false, false, true, false, false, false, true, false, false, false, false, false, false, false, false, false, false] rfl rfl (any_of HT_.out (by kernel_rfl)) (fun _ _ _ h => h) (Or.inl ⟨by rfl, ?_⟩) ?_ ?_
    rotate_left
    ·
     intro w'
     go_simp
     with_reducible rfl
    rotate_left
    ·
     simp only [Act.put, List.setIfInBounds_toArray, List.set_cons_zero, List.set_cons_succ, i64_w, i32_w]
     rfl
    refine pure_ (i := 12) (N := some 19) (v := ?_) (a' := ?_) #[true, false, false, false, true, false, false, false, true, false, false, false, true, false, false, false, false, false, false] rfl rfl (any_of HT_.out (by kernel_rfl)) (fun _ _ _ h => h) (Or.inl ⟨by rfl, ?_⟩) ?_ ?_
    rotate_left
    ·
     intro w'
     go_simp
     with_reducible rfl
    rotate_left
    ·
     simp only [Act.put, List.setIfInBounds_toArray, List.set_cons_zero, List.set_cons_succ, i64_w, i32_w]
     rfl
    refine take_ (i := 1) (N := some 8) (v := ?_) (a' := ?_) #[true, true, false, false, true, false, false, false, true, false, false, false, true, false, false, false, false, false, false] rfl rfl (take_ofW HT_.out HW_.out (by kernel_rfl)) (fun _ _ _ h => h) (Or.inl ⟨by rfl, ?_⟩) hHeld ?_ ?_
    rotate_left
    ·
     rintro w' ⟨s0, s1, s2, s3, s4⟩
     go_simp
     with_reducible rfl
    rotate_left
    ·
     simp only [Act.put, List.setIfInBounds_toArray, List.set_cons_zero, List.set_cons_succ, i64_w, i32_w]
     rfl
    refine take_ (i := 5) (N := some 12) (v := ?_) (a' := ?_) #[true, true, false, false, true, true, false, false, true, false, false, false, true, false, false, false, false, false, false] rfl rfl (take_ofW HT_.out HW_.out (by kernel_rfl)) (fun _ _ _ h => h) (Or.inl ⟨by rfl, ?_⟩) hHeld ?_ ?_
    rotate_left
    ·
     rintro w' ⟨s0, s1, s2, s3, s4⟩
     go_simp
     with_reducible rfl
    rotate_left
    ·
     simp only [Act.put, List.setIfInBounds_toArray, List.set_cons_zero, List.set_cons_succ, i64_w, i32_w]
     rfl
    refine take_ (i := 9) (N := some 16) (v := ?_) (a' := ?_) #[true, true, false, false, true, true, false, false, true, true, false, false, true, false, false, false, false, false, false] rfl rfl (take_ofW HT_.out HW_.out (by kernel_rfl)) (fun _ _ _ h => h) (Or.inl ⟨by rfl, ?_⟩) hHeld ?_ ?_
    rotate_left
    ·
     rintro w' ⟨s0, s1, s2, s3, s4⟩
     go_simp
     with_reducible rfl
    rotate_left
    ·
     simp only [Act.put, List.setIfInBounds_toArray, List.set_cons_zero, List.set_cons_succ, i64_w, i32_w]
     rfl
    refine take_ (i := 13) (N := some 20) (v := ?_) (a' := ?_) #[true, true, false, false, true, true, false, false, true, true, false, false, true, true, false, false, false, false, false] rfl rfl (take_ofW HT_.out HW_.out (by kernel_rfl)) (fun _ _ _ h => h) (Or.inl ⟨by rfl, ?_⟩) hHeld ?_ ?_
    rotate_left
    ·
     rintro w' ⟨s0, s1, s2, s3, s4⟩
     go_simp
     with_reducible rfl
    rotate_left
    ·
     simp only [Act.put, List.setIfInBounds_toArray, List.set_cons_zero, List.set_cons_succ, i64_w, i32_w]
     rfl
    refine one_ (i := 2) (N := some 9) #[true, true, true, false, true, true, false, false, true, true, false, false, true, true, false, false, false, false, false] rfl rfl (one_of HT_.out (by kernel_rfl)) (by decide) (fun K hK => ?_)
    refine goes_ Try.func41 (by kernel_rfl) rfl #[.int .i64 a0_1] (by rfl) rfl rfl (by (try simp only [List.map_toArray, List.map_cons, List.map_nil]); first | done | rfl) ?_
    with_reducible refine (word_Text.calls a0_1 t241 _ A2.out).mono ?_
    rintro e w12 ⟨rfl, hb⟩
    refine ⟨_, rfl, ?_⟩
    have n0_ := mK (kB (g := gb240) (o := o5 a0_0 a0_1 a0_2 a0_3 a0_4 23) (by (with_reducible repeat (first | refine kN ?_ _ | refine kD ?_ | refine kA ?_ _)); exact BK240.out) hb)
    have n1_ := mK (bP (by repeat (first | (with_reducible first | exact HB.out | apply bA | apply bN | apply bD | refine bS ?_ GE240.out) | exact HB.out)) hb)
    clear BK240
    clear HB
    have BK240 := n0_
    have HB := n1_
    clear n0_ n1_
    (try clear hb)
    refine hK.out _ _ ⟨(kC BK240.out 0).trans rfl, (kC BK240.out 1).trans rfl, (kC BK240.out 2).trans rfl, (kC BK240.out 3).trans rfl, (kC BK240.out 4).trans rfl⟩ (fun hHeld => ?_)
    clear hK K
    refine norm_ (a' := ?_) ?_ ?_
    rotate_left
    ·
     show Act.put _ (some 9) _ = _
     simp only [Act.put, List.setIfInBounds_toArray, List.set_cons_zero, List.set_cons_succ, i64_w, i32_w]
     rfl
    refine pure_ (i := 3) (N := some 10) (v := ?_) (a' := ?_) #[true, true, true, true, true, true, false, false, true, true, false, false, true, true, false, false, false, false, false] rfl rfl (any_of HT_.out (by kernel_rfl)) (fun _ _ _ h => h) (Or.inl ⟨by rfl, ?_⟩) ?_ ?_
    rotate_left
    ·
     intro w'
     go_simp
     with_reducible rfl
    rotate_left
    ·
     simp only [Act.put, List.setIfInBounds_toArray, List.set_cons_zero, List.set_cons_succ, i64_w, i32_w]
     rfl
    refine one_ (i := 6) (N := some 13) #[true, true, true, true, true, true, true, false, true, true, false, false, true, true, false, false, false, false, false] rfl rfl (one_of HT_.out (by kernel_rfl)) (by decide) (fun K hK => ?_)
    refine goes_ Try.func41 (by kernel_rfl) rfl #[.int .i64 a0_2] (by rfl) rfl rfl (by (try simp only [List.map_toArray, List.map_cons, List.map_nil]); first | done | rfl) ?_
    with_reducible refine (word_Text.calls a0_2 t242 _ A4.out).mono ?_
    rintro e w13 ⟨rfl, hb⟩
    refine ⟨_, rfl, ?_⟩
    have n0_ := mK (kB (g := gb240) (o := o5 a0_0 a0_1 a0_2 a0_3 a0_4 23) (by (with_reducible repeat (first | refine kN ?_ _ | refine kD ?_ | refine kA ?_ _)); exact BK240.out) hb)
    have n1_ := mK (bP (by repeat (first | (with_reducible first | exact HB.out | apply bA | apply bN | apply bD | refine bS ?_ GE240.out) | exact HB.out)) hb)
    clear BK240
    clear HB
    have BK240 := n0_
    have HB := n1_
    clear n0_ n1_
    (try clear hb)
    refine hK.out _ _ ⟨(kC BK240.out 0).trans rfl, (kC BK240.out 1).trans rfl, (kC BK240.out 2).trans rfl, (kC BK240.out 3).trans rfl, (kC BK240.out 4).trans rfl⟩ (fun hHeld => ?_)
    clear hK K
    refine norm_ (a' := ?_) ?_ ?_
    rotate_left
    ·
     show Act.put _ (some 13) _ = _
     simp only [Act.put, List.setIfInBounds_toArray, List.set_cons_zero, List.set_cons_succ, i64_w, i32_w]
     rfl
    refine pure_ (i := 7) (N := some 14) (v := ?_) (a' := ?_) #[true, true, true, true, true, true, true, true, true, true, false, false, true, true, false, false, false, false, false] rfl rfl (any_of HT_.out (by kernel_rfl)) (fun _ _ _ h => h) (Or.inl ⟨by rfl, ?_⟩) ?_ ?_
    rotate_left
    ·
     intro w'
     go_simp
     with_reducible rfl
    rotate_left
    ·
     simp only [Act.put, List.setIfInBounds_toArray, List.set_cons_zero, List.set_cons_succ, i64_w, i32_w]
     rfl
    refine one_ (i := 10) (N := some 17) #[true, true, true, true, true, true, true, true, true, true, true, false, true, true, false, false, false, false, false] rfl rfl (one_of HT_.out (by kernel_rfl)) (by decide) (fun K hK => ?_)
    refine goes_ Try.func41 (by kernel_rfl) rfl #[.int .i64 a0_3] (by rfl) rfl rfl (by (try simp only [List.map_toArray, List.map_cons, List.map_nil]); first | done | rfl) ?_
    with_reducible refine (word_Text.calls a0_3 t243 _ A6.out).mono ?_
    rintro e w14 ⟨rfl, hb⟩
    refine ⟨_, rfl, ?_⟩
    have n0_ := mK (kB (g := gb240) (o := o5 a0_0 a0_1 a0_2 a0_3 a0_4 23) (by (with_reducible repeat (first | refine kN ?_ _ | refine kD ?_ | refine kA ?_ _)); exact BK240.out) hb)
    have n1_ := mK (bP (by repeat (first | (with_reducible first | exact HB.out | apply bA | apply bN | apply bD | refine bS ?_ GE240.out) | exact HB.out)) hb)
    clear BK240
    clear HB
    have BK240 := n0_
    have HB := n1_
    clear n0_ n1_
    (try clear hb)
    refine hK.out _ _ ⟨(kC BK240.out 0).trans rfl, (kC BK240.out 1).trans rfl, (kC BK240.out 2).trans rfl, (kC BK240.out 3).trans rfl, (kC BK240.out 4).trans rfl⟩ (fun hHeld => ?_)
    clear hK K
    refine norm_ (a' := ?_) ?_ ?_
    rotate_left
    ·
     show Act.put _ (some 17) _ = _
     simp only [Act.put, List.setIfInBounds_toArray, List.set_cons_zero, List.set_cons_succ, i64_w, i32_w]
     rfl
    refine pure_ (i := 11) (N := some 18) (v := ?_) (a' := ?_) #[true, true, true, true, true, true, true, true, true, true, true, true, true, true, false, false, false, false, false] rfl rfl (any_of HT_.out (by kernel_rfl)) (fun _ _ _ h => h) (Or.inl ⟨by rfl, ?_⟩) ?_ ?_
    rotate_left
    ·
     intro w'
     go_simp
     with_reducible rfl
    rotate_left
    ·
     simp only [Act.put, List.setIfInBounds_toArray, List.set_cons_zero, List.set_cons_succ, i64_w, i32_w]
     rfl
    refine one_ (i := 14) (N := some 21) #[true, true, true, true, true, true, true, true, true, true, true, true, true, true, true, false, false, false, false] rfl rfl (one_of HT_.out (by kernel_rfl)) (by decide) (fun K hK => ?_)
    refine goes_ Try.func41 (by kernel_rfl) rfl #[.int .i64 a0_4] (by rfl) rfl rfl (by (try simp only [List.map_toArray, List.map_cons, List.map_nil]); first | done | rfl) ?_
    with_reducible refine (word_Text.calls a0_4 t244 _ A8.out).mono ?_
    rintro e w15 ⟨rfl, hb⟩
    refine ⟨_, rfl, ?_⟩
    have n0_ := mK (kB (g := gb240) (o := o5 a0_0 a0_1 a0_2 a0_3 a0_4 23) (by (with_reducible repeat (first | refine kN ?_ _ | refine kD ?_ | refine kA ?_ _)); exact BK240.out) hb)
    have n1_ := mK (bP (by repeat (first | (with_reducible first | exact HB.out | apply bA | apply bN | apply bD | refine bS ?_ GE240.out) | exact HB.out)) hb)
    clear BK240
    clear HB
    have BK240 := n0_
    have HB := n1_
    clear n0_ n1_
    (try clear hb)
    refine hK.out _ _ ⟨(kC BK240.out 0).trans rfl, (kC BK240.out 1).trans rfl, (kC BK240.out 2).trans rfl, (kC BK240.out 3).trans rfl, (kC BK240.out 4).trans rfl⟩ (fun hHeld => ?_)
    clear hK K
    refine norm_ (a' := ?_) ?_ ?_
    rotate_left
    ·
     show Act.put _ (some 21) _ = _
     simp only [Act.put, List.setIfInBounds_toArray, List.set_cons_zero, List.set_cons_succ, i64_w, i32_w]
     rfl
    refine pure_ (i := 15) (N := some 3) (v := ?_) (a' := ?_) #[true, true, true, true, true, true, true, true, true, true, true, true, true, true, true, true, false, false, false] rfl rfl (any_of HT_.out (by kernel_rfl)) (fun _ _ _ h => h) (Or.inl ⟨by rfl, ?_⟩) ?_ ?_
    rotate_left
    ·
     intro w'
     go_simp
     with_reducible rfl
    rotate_left
    ·
     simp only [Act.put, List.setIfInBounds_toArray, List.set_cons_zero, List.set_cons_succ, i64_w, i32_w]
     rfl
    refine pure_ (i := 16) (N := some 4) (v := ?_) (a' := ?_) #[true, true, true, true, true, true, true, true, true, true, true, true, true, true, true, true, true, false, false] rfl rfl (any_of HT_.out (by kernel_rfl)) (fun _ _ _ h => h) (Or.inl ⟨by rfl, ?_⟩) ?_ ?_
    rotate_left
    ·
     intro w'
     go_simp
     with_reducible rfl
    rotate_left
    ·
     simp only [Act.put, List.setIfInBounds_toArray, List.set_cons_zero, List.set_cons_succ, i64_w, i32_w]
     rfl
    refine pure_ (i := 17) (N := some 5) (v := ?_) (a' := ?_) #[true, true, true, true, true, true, true, true, true, true, true, true, true, true, true, true, true, true, false] rfl rfl (any_of HT_.out (by kernel_rfl)) (fun _ _ _ h => h) (Or.inl ⟨by rfl, ?_⟩) ?_ ?_
    rotate_left
    ·
     intro w'
     go_simp
     with_reducible rfl
    rotate_left
    ·
     simp only [Act.put, List.setIfInBounds_toArray, List.set_cons_zero, List.set_cons_succ, i64_w, i32_w]
     rfl
    refine pure_ (i := 18) (N := some 6) (v := ?_) (a' := ?_) #[true, true, true, true, true, true, true, true, true, true, true, true, true, true, true, true, true, true, true] rfl rfl (any_of HT_.out (by kernel_rfl)) (fun _ _ _ h => h) (Or.inl ⟨by rfl, ?_⟩) ?_ ?_
    rotate_left
    ·
     intro w'
     go_simp
     with_reducible rfl
    rotate_left
    ·
     simp only [Act.put, List.setIfInBounds_toArray, List.set_cons_zero, List.set_cons_succ, i64_w, i32_w]
     rfl
    refine done_ (done_of HT_.out (by kernel_rfl)) ?_
    obtain ⟨hcz16_0, hcz16_1, hcz16_2, hcz16_3, hcz16_4, hfz16_0, hfz16_1, hfz16_2, hfz16_3, hfz16_4⟩ := cf5 BK240.out
    go_upto_if 24 with (fail)
    go_cut [4] (fun v4 wc => ∃ (kq : Nat) (x4_8 : ByteArray), v4 = .string x4_8 ∧ Aside0 (instr_fields.j0 kq ((⟨#[114]⟩ : ByteArray) ++ t241) x4_8 ((⟨#[114]⟩ : ByteArray) ++ t243) t244 a0_0 a0_1 a0_2 a0_3 a0_4 = some r) ∧ Aside0 (kq ≤ k) ∧ Aside0 (wc.heap[gb240]? = some (o5 a0_0 a0_1 a0_2 a0_3 a0_4 23)) ∧ Aside0 (Below w.heap.size w wc))
    case first =>
     have H := HC9.out
     clear HC9
     by_cases c17 : a0_0 = 26
     ·
      rw [if_pos c17] at H
      have c17b0 : (a0_0 == 26) = true := beq_iff_eq.mpr c17
      have c17b1 : (a0_0 != 26) = false := bR c17
      clear c17
      (first | rw [c17b0] | (simp only [i64_w, i32_w]; rw [c17b0]) | skip)
      replace H := oB H
      obtain ⟨t245, A180, H⟩ := H
      replace H : (instr_fields.j0 k ((⟨#[114]⟩ : ByteArray) ++ t241) t245 ((⟨#[114]⟩ : ByteArray) ++ t243) t244 a0_0 a0_1 a0_2 a0_3 a0_4) = some r := H
      have A18 := mK A180
      clear A180
      have H' := mK H
      clear H
      obtain ⟨hcz19_0, hcz19_1, hcz19_2, hcz19_3, hcz19_4, hfz19_0, hfz19_1, hfz19_2, hfz19_3, hfz19_4⟩ := cf5 BK240.out
      go_wp2_with (first | ((with_reducible refine gate_callee (f := 41) rfl ?_); refine goesL_ (some 27) rfl rfl Try.func41 (by kernel_rfl) rfl #[.int .i64 a0_2] rfl (by (try simp only [List.map_toArray, List.map_cons, List.map_nil]); first | done | rfl) ?_; (with_reducible refine (word_Text.calls a0_2 t245 _ A18.out).mono ?_); rintro e w20 ⟨rfl, hb⟩; refine ⟨_, rfl, ?_⟩; have n0_ := mK (kB (g := gb240) (o := o5 a0_0 a0_1 a0_2 a0_3 a0_4 23) (by (with_reducible repeat (first | refine kN ?_ _ | refine kD ?_ | refine kA ?_ _)); exact BK240.out) hb); have n1_ := mK (bP (by repeat (first | (with_reducible first | exact HB.out | apply bA | apply bN | apply bD | refine bS ?_ GE240.out) | exact HB.out)) hb); clear BK240; clear HB; have BK240 := n0_; have HB := n1_; clear n0_ n1_; (try clear hb)))
      go_meet
      case rel => exact ⟨_, (t245), (by first | rfl | (simp; done) | (simp [*]; done)), H', ⟨by first | omega | exact Nat.le_refl _⟩, ⟨by (with_reducible repeat (first | refine kN ?_ _ | refine kD ?_ | refine kA ?_ _)); exact BK240.out⟩, ⟨by repeat (first | (with_reducible first | exact HB.out | apply bA | apply bN | apply bD | refine bS ?_ GE240.out) | exact HB.out)⟩⟩
     ·
      rw [if_neg c17] at H
      have c17b0 : (a0_0 == 26) = false := bQ c17
      have c17b1 : (a0_0 != 26) = true := bne_iff_ne.mpr c17
      (first | rw [c17b0] | (simp only [i64_w, i32_w]; rw [c17b0]) | skip)
      have H' := mK H
      clear H
      go_wp2
      go_meet
      case rel => exact ⟨_, ((⟨#[114]⟩ : ByteArray) ++ t242), (by first | rfl | (simp; done) | (simp [*]; done)), H', ⟨by first | omega | exact Nat.le_refl _⟩, ⟨by (with_reducible repeat (first | refine kN ?_ _ | refine kD ?_ | refine kA ?_ _)); exact BK240.out⟩, ⟨by repeat (first | (with_reducible first | exact HB.out | apply bA | apply bN | apply bD | refine bS ?_ GE240.out) | exact HB.out)⟩⟩
    case rest =>
     clear HC9
     (try clear c3); (try clear c3b0); (try clear c3b1); (try clear c3b2); (try clear c5); (try clear c5b0); (try clear c5b1); (try clear c5b2); (try clear c7); (try clear c7b0); (try clear c7b1); (try clear c7b2); (try clear hcz16_0); (try clear hcz16_1); (try clear hcz16_2); (try clear hcz16_3); (try clear hcz16_4); (try clear hfz16_0); (try clear hfz16_1); (try clear hfz16_2); (try clear hfz16_3); (try clear hfz16_4)
     obtain ⟨kq, x4_8, rfl, HA, HJ8, BK240, HB⟩ := hcut
     cases kq with
     | zero => exact absurd HA.out (by simp [instr_fields.j0])
     | succ kj8 =>
      have H := HA.out
      clear HA
      simp only [instr_fields.j0] at H
      replace H := oB H
      obtain ⟨t246, A210, H⟩ := H
      replace H : (if t246 = 1 then (instr_fields.j1 kj8 ((⟨#[114]⟩ : ByteArray) ++ t241) x4_8 ((⟨#[114]⟩ : ByteArray) ++ t243) t244 t246 (t246 == 1)) else (instr_fields.j1 kj8 ((⟨#[114]⟩ : ByteArray) ++ t241) x4_8 ((⟨#[114]⟩ : ByteArray) ++ t243) t244 t246 (t246 == 2))) = some r := H
      have A21 := mK A210
      clear A210
      have HC22 := mK H
      clear H
      obtain ⟨hcz23_0, hcz23_1, hcz23_2, hcz23_3, hcz23_4, hfz23_0, hfz23_1, hfz23_2, hfz23_3, hfz23_4⟩ := cf5 BK240.out
      go_upto_if 31 with (first | ((with_reducible refine gate_callee (f := 13) rfl ?_); refine goesL_ (some 30) rfl rfl Try.func13 (by kernel_rfl) rfl #[.int .i64 a0_0] rfl (by (try simp only [List.map_toArray, List.map_cons, List.map_nil]); first | done | rfl) ?_; (with_reducible refine (instr_Shape.calls kj8 a0_0 t246 _ A21.out).mono ?_); rintro e w' ⟨rfl, ⟨nd, rfl⟩⟩; refine ⟨_, rfl, ?_⟩))
      (try simp only [Act.put, List.setIfInBounds_toArray, List.set_cons_zero, List.set_cons_succ])
      go_cut [31] (fun v31 wc => ∃ (kq : Nat) (x31_21 : Bool), v31 = .bool x31_21 ∧ Aside0 (instr_fields.j1 kq ((⟨#[114]⟩ : ByteArray) ++ t241) x4_8 ((⟨#[114]⟩ : ByteArray) ++ t243) t244 t246 x31_21 = some r) ∧ Aside0 (kq ≤ kj8) ∧ Aside0 (wc.heap[gb240]? = some (o5 a0_0 a0_1 a0_2 a0_3 a0_4 23)) ∧ Aside0 (Below w.heap.size w wc))
      case first =>
       have H := HC22.out
       clear HC22
       by_cases c24 : t246 = 1
       ·
        rw [if_pos c24] at H
        have c24b0 : (t246 == 1) = true := beq_iff_eq.mpr c24
        have c24b1 : (t246 != 1) = false := bR c24
        clear c24
        (first | rw [c24b0] | (simp only [i64_w, i32_w]; rw [c24b0]) | skip)
        have H' := mK H
        clear H
        go_wp2
        go_meet
        case rel => exact ⟨_, ((t246 == 1)), (by first | rfl | (simp; done) | (simp [*]; done)), H', ⟨by have := HJ8.out; first | omega | exact Nat.le_refl _⟩, ⟨by (with_reducible repeat (first | refine kN ?_ _ | refine kD ?_ | refine kA ?_ _)); exact BK240.out⟩, ⟨by repeat (first | (with_reducible first | exact HB.out | apply bA | apply bN | apply bD | refine bS ?_ GE240.out) | exact HB.out)⟩⟩
       ·
        rw [if_neg c24] at H
        have c24b0 : (t246 == 1) = false := bQ c24
        have c24b1 : (t246 != 1) = true := bne_iff_ne.mpr c24
        (first | rw [c24b0] | (simp only [i64_w, i32_w]; rw [c24b0]) | skip)
        have H' := mK H
        clear H
        go_wp2
        go_meet
        case rel => exact ⟨_, ((t246 == 2)), (by first | rfl | (simp; done) | (simp [*]; done)), H', ⟨by have := HJ8.out; first | omega | exact Nat.le_refl _⟩, ⟨by (with_reducible repeat (first | refine kN ?_ _ | refine kD ?_ | refine kA ?_ _)); exact BK240.out⟩, ⟨by repeat (first | (with_reducible first | exact HB.out | apply bA | apply bN | apply bD | refine bS ?_ GE240.out) | exact HB.out)⟩⟩
      case rest =>
       clear HC22
       (try clear c3); (try clear c3b0); (try clear c3b1); (try clear c3b2); (try clear c5); (try clear c5b0); (try clear c5b1); (try clear c5b2); (try clear c7); (try clear c7b0); (try clear c7b1); (try clear c7b2); (try clear hcz16_0); (try clear hcz16_1); (try clear hcz16_2); (try clear hcz16_3); (try clear hcz16_4); (try clear hcz23_0); (try clear hcz23_1); (try clear hcz23_2); (try clear hcz23_3); (try clear hcz23_4); (try clear hfz16_0); (try clear hfz16_1); (try clear hfz16_2); (try clear hfz16_3); (try clear hfz16_4); (try clear hfz23_0); (try clear hfz23_1); (try clear hfz23_2); (try clear hfz23_3); (try clear hfz23_4)
       obtain ⟨kq, x31_21, rfl, HA, HJ21, BK240, HB⟩ := hcut
       cases kq with
       | zero => exact absurd HA.out (by simp [instr_fields.j1])
       | succ kj21 =>
        have H := HA.out
        clear HA
        simp only [instr_fields.j1] at H
        by_cases c25 : x31_21 = true
        ·
         subst c25
         have H1 : (some (([((⟨#[114]⟩ : ByteArray) ++ t241), t244] : List ByteArray))) = some r := by rw [if_pos rfl] at H; exact H
         clear H
         have H := H1
         clear H1
         obtain ⟨y247, hy247⟩ : ∃ y_ : List ByteArray, y_ = (([((⟨#[114]⟩ : ByteArray) ++ t241), t244] : List ByteArray)) := ⟨_, rfl⟩
         replace H : (some y247) = some r := by first | (rw [hy247]; with_reducible exact H) | (have H2_ := (Option.bind_some _ _).symm.trans H; rw [hy247]; with_reducible exact H2_) | (have H2_ := (Option.bind_some _ _).symm.trans H; with_reducible exact H2_) | with_reducible exact H | (rw [hy247]; exact H) | exact H
         have Ny247 := mK hy247
         clear hy247
         obtain rfl := Option.some.inj H
         go_wp2_with (first | ((with_reducible refine gate_dst (N := 36) rfl ?_); refine Kd.R_lit Kd.string _ 9 ?hg (N := 36) ?hd (xs := ([((⟨#[114]⟩ : ByteArray) ++ t241), t244] : List ByteArray)) (inner := [.string ((⟨#[114]⟩ : ByteArray) ++ t241), .string t244]) (ok := fun _ => True) (okp := fun _ => True) ?hr ?hp (fun _ hk => hk) trivial (Below.refl _ _) (Nat.le_refl _) (by simp) ?_; (case hd => rfl); (case hg => rfl); (case hr => first | (go_simp; done) | (go_simp; rfl)); (case hp => exact (Reps.one (show Kd.M Kd.string _ _ _ ((⟨#[114]⟩ : ByteArray) ++ t241) [.string ((⟨#[114]⟩ : ByteArray) ++ t241)] from rfl) (Reps.one (show Kd.M Kd.string _ _ _ t244 [.string t244] from rfl) (Reps.none _ _)))); intro v248 w26 ho27 hb hg_ hnew_; clear hg_ hnew_; (first | rw [← Ny247.out] at ho27 | (simp only [Int.reduceToNat] at ho27; rw [← Ny247.out] at ho27)); have n0_ := mK (Kd.R_lower ho27 (bZ (by repeat (first | (with_reducible first | exact HB.out | apply bA | apply bN | apply bD | refine bS ?_ GE240.out) | exact HB.out)))); have n1_ := mK (kB (g := gb240) (o := o5 a0_0 a0_1 a0_2 a0_3 a0_4 23) (by (with_reducible repeat (first | refine kN ?_ _ | refine kD ?_ | refine kA ?_ _)); exact BK240.out) hb); have n2_ := mK (bP (by repeat (first | (with_reducible first | exact HB.out | apply bA | apply bN | apply bD | refine bS ?_ GE240.out) | exact HB.out)) hb); clear BK240; clear HB; have HO249 := n0_; have BK240 := n1_; have HB := n2_; clear n0_ n1_ n2_; clear hb ho27))
         go_ret
         exact ⟨_, by first | rfl | (simp [errW_none, errW_some] <;> rfl) | (simp [*, errW_none, errW_some] <;> rfl), by (with_reducible repeat (first | apply Kd.R_alloc | apply Kd.R_drewN | apply Kd.R_drew)); exact HO249.out, by repeat (first | (with_reducible first | exact HB.out | apply bA | apply bN | apply bD | refine bS ?_ GE240.out) | exact HB.out)⟩
        ·
         replace c25 := Bool.eq_false_iff.mpr c25
         subst c25
         have H1 : (if t246 = 3 then (instr_fields.j2 kj21 ((⟨#[114]⟩ : ByteArray) ++ t241) x4_8 ((⟨#[114]⟩ : ByteArray) ++ t243) t244 t246 (t246 == 3)) else (instr_fields.j2 kj21 ((⟨#[114]⟩ : ByteArray) ++ t241) x4_8 ((⟨#[114]⟩ : ByteArray) ++ t243) t244 t246 (t246 == 4))) = some r := by rw [if_neg (show ¬ (false = true) by decide)] at H; exact H
         clear H
         have H := H1
         clear H1
         have HC28 := mK H
         clear H
         go_upto_if 37 with (fail)
         go_cut [37] (fun v37 wc => ∃ (kq : Nat) (x37_27 : Bool), v37 = .bool x37_27 ∧ Aside0 (instr_fields.j2 kq ((⟨#[114]⟩ : ByteArray) ++ t241) x4_8 ((⟨#[114]⟩ : ByteArray) ++ t243) t244 t246 x37_27 = some r) ∧ Aside0 (kq ≤ kj21) ∧ Aside0 (wc.heap[gb240]? = some (o5 a0_0 a0_1 a0_2 a0_3 a0_4 23)) ∧ Aside0 (Below w.heap.size w wc))
         case first =>
          have H := HC28.out
          clear HC28
          by_cases c29 : t246 = 3
          ·
           rw [if_pos c29] at H
           have c29b0 : (t246 == 3) = true := beq_iff_eq.mpr c29
           have c29b1 : (t246 != 3) = false := bR c29
           clear c29
           (first | rw [c29b0] | (simp only [i64_w, i32_w]; rw [c29b0]) | skip)
           have H' := mK H
           clear H
           go_wp2
           go_meet
           case rel => exact ⟨_, ((t246 == 3)), (by first | rfl | (simp; done) | (simp [*]; done)), H', ⟨by have := HJ8.out; have := HJ21.out; first | omega | exact Nat.le_refl _⟩, ⟨by (with_reducible repeat (first | refine kN ?_ _ | refine kD ?_ | refine kA ?_ _)); exact BK240.out⟩, ⟨by repeat (first | (with_reducible first | exact HB.out | apply bA | apply bN | apply bD | refine bS ?_ GE240.out) | exact HB.out)⟩⟩
          ·
           rw [if_neg c29] at H
           have c29b0 : (t246 == 3) = false := bQ c29
           have c29b1 : (t246 != 3) = true := bne_iff_ne.mpr c29
           (first | rw [c29b0] | (simp only [i64_w, i32_w]; rw [c29b0]) | skip)
           have H' := mK H
           clear H
           go_wp2
           go_meet
           case rel => exact ⟨_, ((t246 == 4)), (by first | rfl | (simp; done) | (simp [*]; done)), H', ⟨by have := HJ8.out; have := HJ21.out; first | omega | exact Nat.le_refl _⟩, ⟨by (with_reducible repeat (first | refine kN ?_ _ | refine kD ?_ | refine kA ?_ _)); exact BK240.out⟩, ⟨by repeat (first | (with_reducible first | exact HB.out | apply bA | apply bN | apply bD | refine bS ?_ GE240.out) | exact HB.out)⟩⟩
         case rest =>
          clear HC28
          (try clear c3); (try clear c3b0); (try clear c3b1); (try clear c3b2); (try clear c5); (try clear c5b0); (try clear c5b1); (try clear c5b2); (try clear c7); (try clear c7b0); (try clear c7b1); (try clear c7b2); (try clear c25); (try clear hcz16_0); (try clear hcz16_1); (try clear hcz16_2); (try clear hcz16_3); (try clear hcz16_4); (try clear hcz23_0); (try clear hcz23_1); (try clear hcz23_2); (try clear hcz23_3); (try clear hcz23_4); (try clear hfz16_0); (try clear hfz16_1); (try clear hfz16_2); (try clear hfz16_3); (try clear hfz16_4); (try clear hfz23_0); (try clear hfz23_1); (try clear hfz23_2); (try clear hfz23_3); (try clear hfz23_4)
          obtain ⟨kq, x37_27, rfl, HA, HJ27, BK240, HB⟩ := hcut
          cases kq with
          | zero => exact absurd HA.out (by simp [instr_fields.j2])
          | succ kj27 =>
           have H := HA.out
           clear HA
           simp only [instr_fields.j2] at H
           by_cases c30 : x37_27 = true
           ·
            subst c30
            have H1 : (some (([((⟨#[114]⟩ : ByteArray) ++ t241), x4_8, t244] : List ByteArray))) = some r := by rw [if_pos rfl] at H; exact H
            clear H
            have H := H1
            clear H1
            obtain ⟨y250, hy250⟩ : ∃ y_ : List ByteArray, y_ = (([((⟨#[114]⟩ : ByteArray) ++ t241), x4_8, t244] : List ByteArray)) := ⟨_, rfl⟩
            replace H : (some y250) = some r := by first | (rw [hy250]; with_reducible exact H) | (have H2_ := (Option.bind_some _ _).symm.trans H; rw [hy250]; with_reducible exact H2_) | (have H2_ := (Option.bind_some _ _).symm.trans H; with_reducible exact H2_) | with_reducible exact H | (rw [hy250]; exact H) | exact H
            have Ny250 := mK hy250
            clear hy250
            obtain rfl := Option.some.inj H
            go_wp2_with (first | ((with_reducible refine gate_dst (N := 43) rfl ?_); refine Kd.R_lit Kd.string _ 9 ?hg (N := 43) ?hd (xs := ([((⟨#[114]⟩ : ByteArray) ++ t241), x4_8, t244] : List ByteArray)) (inner := [.string ((⟨#[114]⟩ : ByteArray) ++ t241), .string x4_8, .string t244]) (ok := fun _ => True) (okp := fun _ => True) ?hr ?hp (fun _ hk => hk) trivial (Below.refl _ _) (Nat.le_refl _) (by simp) ?_; (case hd => rfl); (case hg => rfl); (case hr => first | (go_simp; done) | (go_simp; rfl)); (case hp => exact (Reps.one (show Kd.M Kd.string _ _ _ ((⟨#[114]⟩ : ByteArray) ++ t241) [.string ((⟨#[114]⟩ : ByteArray) ++ t241)] from rfl) (Reps.one (show Kd.M Kd.string _ _ _ x4_8 [.string x4_8] from rfl) (Reps.one (show Kd.M Kd.string _ _ _ t244 [.string t244] from rfl) (Reps.none _ _))))); intro v251 w31 ho32 hb hg_ hnew_; clear hg_ hnew_; (first | rw [← Ny250.out] at ho32 | (simp only [Int.reduceToNat] at ho32; rw [← Ny250.out] at ho32)); have n0_ := mK (Kd.R_lower ho32 (bZ (by repeat (first | (with_reducible first | exact HB.out | apply bA | apply bN | apply bD | refine bS ?_ GE240.out) | exact HB.out)))); have n1_ := mK (kB (g := gb240) (o := o5 a0_0 a0_1 a0_2 a0_3 a0_4 23) (by (with_reducible repeat (first | refine kN ?_ _ | refine kD ?_ | refine kA ?_ _)); exact BK240.out) hb); have n2_ := mK (bP (by repeat (first | (with_reducible first | exact HB.out | apply bA | apply bN | apply bD | refine bS ?_ GE240.out) | exact HB.out)) hb); clear BK240; clear HB; have HO252 := n0_; have BK240 := n1_; have HB := n2_; clear n0_ n1_ n2_; clear hb ho32))
            go_ret
            exact ⟨_, by first | rfl | (simp [errW_none, errW_some] <;> rfl) | (simp [*, errW_none, errW_some] <;> rfl), by (with_reducible repeat (first | apply Kd.R_alloc | apply Kd.R_drewN | apply Kd.R_drew)); exact HO252.out, by repeat (first | (with_reducible first | exact HB.out | apply bA | apply bN | apply bD | refine bS ?_ GE240.out) | exact HB.out)⟩
           ·
            replace c30 := Bool.eq_false_iff.mpr c30
            subst c30
            have H1 : (if t246 = 5 then (some (([((⟨#[114]⟩ : ByteArray) ++ t241), x4_8, ((⟨#[114]⟩ : ByteArray) ++ t243)] : List ByteArray))) else (if t246 = 6 then (some (([((⟨#[114]⟩ : ByteArray) ++ t241)] : List ByteArray))) else (if t246 = 7 then (some (([t244] : List ByteArray))) else (if t246 = 8 then (some (([t244] : List ByteArray))) else (some ([] : List ByteArray)))))) = some r := by rw [if_neg (show ¬ (false = true) by decide)] at H; exact H
            clear H
            have H := H1
            clear H1
            by_cases c33 : t246 = 5
            ·
             rw [if_pos c33] at H
             have c33b0 : (t246 == 5) = true := beq_iff_eq.mpr c33
             have c33b1 : (t246 != 5) = false := bR c33
             clear c33
             obtain ⟨y253, hy253⟩ : ∃ y_ : List ByteArray, y_ = (([((⟨#[114]⟩ : ByteArray) ++ t241), x4_8, ((⟨#[114]⟩ : ByteArray) ++ t243)] : List ByteArray)) := ⟨_, rfl⟩
             replace H : (some y253) = some r := by first | (rw [hy253]; with_reducible exact H) | (have H2_ := (Option.bind_some _ _).symm.trans H; rw [hy253]; with_reducible exact H2_) | (have H2_ := (Option.bind_some _ _).symm.trans H; with_reducible exact H2_) | with_reducible exact H | (rw [hy253]; exact H) | exact H
             have Ny253 := mK hy253
             clear hy253
             obtain rfl := Option.some.inj H
             go_wp2_with (first | ((with_reducible refine gate_dst (N := 49) rfl ?_); refine Kd.R_lit Kd.string _ 9 ?hg (N := 49) ?hd (xs := ([((⟨#[114]⟩ : ByteArray) ++ t241), x4_8, ((⟨#[114]⟩ : ByteArray) ++ t243)] : List ByteArray)) (inner := [.string ((⟨#[114]⟩ : ByteArray) ++ t241), .string x4_8, .string ((⟨#[114]⟩ : ByteArray) ++ t243)]) (ok := fun _ => True) (okp := fun _ => True) ?hr ?hp (fun _ hk => hk) trivial (Below.refl _ _) (Nat.le_refl _) (by simp) ?_; (case hd => rfl); (case hg => rfl); (case hr => first | (go_simp; done) | (go_simp; rfl)); (case hp => exact (Reps.one (show Kd.M Kd.string _ _ _ ((⟨#[114]⟩ : ByteArray) ++ t241) [.string ((⟨#[114]⟩ : ByteArray) ++ t241)] from rfl) (Reps.one (show Kd.M Kd.string _ _ _ x4_8 [.string x4_8] from rfl) (Reps.one (show Kd.M Kd.string _ _ _ ((⟨#[114]⟩ : ByteArray) ++ t243) [.string ((⟨#[114]⟩ : ByteArray) ++ t243)] from rfl) (Reps.none _ _))))); intro v254 w34 ho35 hb hg_ hnew_; clear hg_ hnew_; (first | rw [← Ny253.out] at ho35 | (simp only [Int.reduceToNat] at ho35; rw [← Ny253.out] at ho35)); have n0_ := mK (Kd.R_lower ho35 (bZ (by repeat (first | (with_reducible first | exact HB.out | apply bA | apply bN | apply bD | refine bS ?_ GE240.out) | exact HB.out)))); have n1_ := mK (kB (g := gb240) (o := o5 a0_0 a0_1 a0_2 a0_3 a0_4 23) (by (with_reducible repeat (first | refine kN ?_ _ | refine kD ?_ | refine kA ?_ _)); exact BK240.out) hb); have n2_ := mK (bP (by repeat (first | (with_reducible first | exact HB.out | apply bA | apply bN | apply bD | refine bS ?_ GE240.out) | exact HB.out)) hb); clear BK240; clear HB; have HO255 := n0_; have BK240 := n1_; have HB := n2_; clear n0_ n1_ n2_; clear hb ho35))
             go_ret
             exact ⟨_, by first | rfl | (simp [errW_none, errW_some] <;> rfl) | (simp [*, errW_none, errW_some] <;> rfl), by (with_reducible repeat (first | apply Kd.R_alloc | apply Kd.R_drewN | apply Kd.R_drew)); exact HO255.out, by repeat (first | (with_reducible first | exact HB.out | apply bA | apply bN | apply bD | refine bS ?_ GE240.out) | exact HB.out)⟩
            ·
             rw [if_neg c33] at H
             have c33b0 : (t246 == 5) = false := bQ c33
             have c33b1 : (t246 != 5) = true := bne_iff_ne.mpr c33
             by_cases c36 : t246 = 6
             ·
              rw [if_pos c36] at H
              have c36b0 : (t246 == 6) = true := beq_iff_eq.mpr c36
              have c36b1 : (t246 != 6) = false := bR c36
              clear c36
              obtain ⟨y256, hy256⟩ : ∃ y_ : List ByteArray, y_ = (([((⟨#[114]⟩ : ByteArray) ++ t241)] : List ByteArray)) := ⟨_, rfl⟩
              replace H : (some y256) = some r := by first | (rw [hy256]; with_reducible exact H) | (have H2_ := (Option.bind_some _ _).symm.trans H; rw [hy256]; with_reducible exact H2_) | (have H2_ := (Option.bind_some _ _).symm.trans H; with_reducible exact H2_) | with_reducible exact H | (rw [hy256]; exact H) | exact H
              have Ny256 := mK hy256
              clear hy256
              obtain rfl := Option.some.inj H
              go_wp2_with (first | ((with_reducible refine gate_dst (N := 53) rfl ?_); refine Kd.R_lit Kd.string _ 9 ?hg (N := 53) ?hd (xs := ([((⟨#[114]⟩ : ByteArray) ++ t241)] : List ByteArray)) (inner := [.string ((⟨#[114]⟩ : ByteArray) ++ t241)]) (ok := fun _ => True) (okp := fun _ => True) ?hr ?hp (fun _ hk => hk) trivial (Below.refl _ _) (Nat.le_refl _) (by simp) ?_; (case hd => rfl); (case hg => rfl); (case hr => first | (go_simp; done) | (go_simp; rfl)); (case hp => exact (Reps.one (show Kd.M Kd.string _ _ _ ((⟨#[114]⟩ : ByteArray) ++ t241) [.string ((⟨#[114]⟩ : ByteArray) ++ t241)] from rfl) (Reps.none _ _))); intro v257 w37 ho38 hb hg_ hnew_; clear hg_ hnew_; (first | rw [← Ny256.out] at ho38 | (simp only [Int.reduceToNat] at ho38; rw [← Ny256.out] at ho38)); have n0_ := mK (Kd.R_lower ho38 (bZ (by repeat (first | (with_reducible first | exact HB.out | apply bA | apply bN | apply bD | refine bS ?_ GE240.out) | exact HB.out)))); have n1_ := mK (kB (g := gb240) (o := o5 a0_0 a0_1 a0_2 a0_3 a0_4 23) (by (with_reducible repeat (first | refine kN ?_ _ | refine kD ?_ | refine kA ?_ _)); exact BK240.out) hb); have n2_ := mK (bP (by repeat (first | (with_reducible first | exact HB.out | apply bA | apply bN | apply bD | refine bS ?_ GE240.out) | exact HB.out)) hb); clear BK240; clear HB; have HO258 := n0_; have BK240 := n1_; have HB := n2_; clear n0_ n1_ n2_; clear hb ho38))
              go_ret
              exact ⟨_, by first | rfl | (simp [errW_none, errW_some] <;> rfl) | (simp [*, errW_none, errW_some] <;> rfl), by (with_reducible repeat (first | apply Kd.R_alloc | apply Kd.R_drewN | apply Kd.R_drew)); exact HO258.out, by repeat (first | (with_reducible first | exact HB.out | apply bA | apply bN | apply bD | refine bS ?_ GE240.out) | exact HB.out)⟩
             ·
              rw [if_neg c36] at H
              have c36b0 : (t246 == 6) = false := bQ c36
              have c36b1 : (t246 != 6) = true := bne_iff_ne.mpr c36
              by_cases c39 : t246 = 7
              ·
               rw [if_pos c39] at H
               have c39b0 : (t246 == 7) = true := beq_iff_eq.mpr c39
               have c39b1 : (t246 != 7) = false := bR c39
               clear c39
               obtain ⟨y259, hy259⟩ : ∃ y_ : List ByteArray, y_ = (([t244] : List ByteArray)) := ⟨_, rfl⟩
               replace H : (some y259) = some r := by first | (rw [hy259]; with_reducible exact H) | (have H2_ := (Option.bind_some _ _).symm.trans H; rw [hy259]; with_reducible exact H2_) | (have H2_ := (Option.bind_some _ _).symm.trans H; with_reducible exact H2_) | with_reducible exact H | (rw [hy259]; exact H) | exact H
               have Ny259 := mK hy259
               clear hy259
               obtain rfl := Option.some.inj H
               go_wp2_with (first | ((with_reducible refine gate_dst (N := 58) rfl ?_); refine Kd.R_lit Kd.string _ 9 ?hg (N := 58) ?hd (xs := ([t244] : List ByteArray)) (inner := [.string t244]) (ok := fun _ => True) (okp := fun _ => True) ?hr ?hp (fun _ hk => hk) trivial (Below.refl _ _) (Nat.le_refl _) (by simp) ?_; (case hd => rfl); (case hg => rfl); (case hr => first | (go_simp; done) | (go_simp; rfl)); (case hp => exact (Reps.one (show Kd.M Kd.string _ _ _ t244 [.string t244] from rfl) (Reps.none _ _))); intro v260 w40 ho41 hb hg_ hnew_; clear hg_ hnew_; (first | rw [← Ny259.out] at ho41 | (simp only [Int.reduceToNat] at ho41; rw [← Ny259.out] at ho41)); have n0_ := mK (Kd.R_lower ho41 (bZ (by repeat (first | (with_reducible first | exact HB.out | apply bA | apply bN | apply bD | refine bS ?_ GE240.out) | exact HB.out)))); have n1_ := mK (kB (g := gb240) (o := o5 a0_0 a0_1 a0_2 a0_3 a0_4 23) (by (with_reducible repeat (first | refine kN ?_ _ | refine kD ?_ | refine kA ?_ _)); exact BK240.out) hb); have n2_ := mK (bP (by repeat (first | (with_reducible first | exact HB.out | apply bA | apply bN | apply bD | refine bS ?_ GE240.out) | exact HB.out)) hb); clear BK240; clear HB; have HO261 := n0_; have BK240 := n1_; have HB := n2_; clear n0_ n1_ n2_; clear hb ho41))
               go_ret
               exact ⟨_, by first | rfl | (simp [errW_none, errW_some] <;> rfl) | (simp [*, errW_none, errW_some] <;> rfl), by (with_reducible repeat (first | apply Kd.R_alloc | apply Kd.R_drewN | apply Kd.R_drew)); exact HO261.out, by repeat (first | (with_reducible first | exact HB.out | apply bA | apply bN | apply bD | refine bS ?_ GE240.out) | exact HB.out)⟩
              ·
               rw [if_neg c39] at H
               have c39b0 : (t246 == 7) = false := bQ c39
               have c39b1 : (t246 != 7) = true := bne_iff_ne.mpr c39
               by_cases c42 : t246 = 8
               ·
                rw [if_pos c42] at H
                have c42b0 : (t246 == 8) = true := beq_iff_eq.mpr c42
                have c42b1 : (t246 != 8) = false := bR c42
                clear c42
                obtain ⟨y262, hy262⟩ : ∃ y_ : List ByteArray, y_ = (([t244] : List ByteArray)) := ⟨_, rfl⟩
                replace H : (some y262) = some r := by first | (rw [hy262]; with_reducible exact H) | (have H2_ := (Option.bind_some _ _).symm.trans H; rw [hy262]; with_reducible exact H2_) | (have H2_ := (Option.bind_some _ _).symm.trans H; with_reducible exact H2_) | with_reducible exact H | (rw [hy262]; exact H) | exact H
                have Ny262 := mK hy262
                clear hy262
                obtain rfl := Option.some.inj H
                go_wp2_with (first | ((with_reducible refine gate_dst (N := 58) rfl ?_); refine Kd.R_lit Kd.string _ 9 ?hg (N := 58) ?hd (xs := ([t244] : List ByteArray)) (inner := [.string t244]) (ok := fun _ => True) (okp := fun _ => True) ?hr ?hp (fun _ hk => hk) trivial (Below.refl _ _) (Nat.le_refl _) (by simp) ?_; (case hd => rfl); (case hg => rfl); (case hr => first | (go_simp; done) | (go_simp; rfl)); (case hp => exact (Reps.one (show Kd.M Kd.string _ _ _ t244 [.string t244] from rfl) (Reps.none _ _))); intro v263 w43 ho44 hb hg_ hnew_; clear hg_ hnew_; (first | rw [← Ny262.out] at ho44 | (simp only [Int.reduceToNat] at ho44; rw [← Ny262.out] at ho44)); have n0_ := mK (Kd.R_lower ho44 (bZ (by repeat (first | (with_reducible first | exact HB.out | apply bA | apply bN | apply bD | refine bS ?_ GE240.out) | exact HB.out)))); have n1_ := mK (kB (g := gb240) (o := o5 a0_0 a0_1 a0_2 a0_3 a0_4 23) (by (with_reducible repeat (first | refine kN ?_ _ | refine kD ?_ | refine kA ?_ _)); exact BK240.out) hb); have n2_ := mK (bP (by repeat (first | (with_reducible first | exact HB.out | apply bA | apply bN | apply bD | refine bS ?_ GE240.out) | exact HB.out)) hb); clear BK240; clear HB; have HO264 := n0_; have BK240 := n1_; have HB := n2_; clear n0_ n1_ n2_; clear hb ho44))
                go_ret
                exact ⟨_, by first | rfl | (simp [errW_none, errW_some] <;> rfl) | (simp [*, errW_none, errW_some] <;> rfl), by (with_reducible repeat (first | apply Kd.R_alloc | apply Kd.R_drewN | apply Kd.R_drew)); exact HO264.out, by repeat (first | (with_reducible first | exact HB.out | apply bA | apply bN | apply bD | refine bS ?_ GE240.out) | exact HB.out)⟩
               ·
                rw [if_neg c42] at H
                have c42b0 : (t246 == 8) = false := bQ c42
                have c42b1 : (t246 != 8) = true := bne_iff_ne.mpr c42
                obtain rfl := Option.some.inj H
                go_wp2
                go_ret
                exact ⟨_, by first | rfl | (simp [errW_none, errW_some] <;> rfl) | (simp [*, errW_none, errW_some] <;> rfl), by first | exact Kd.R_nil _ _ _ _ _ | exact Kd.N_nil _ _ _ _ _ | exact Kd.V_nil _ _ _ _ _ | exact Kd.Q_nil _ _ _ _ _ | exact Kd.S_nil _ _ _ _ _, by repeat (first | (with_reducible first | exact HB.out | apply bA | apply bN | apply bD | refine bS ?_ GE240.out) | exact HB.out)⟩
   ·
    rw [if_neg c7] at H
    exact absurd H (by simp)
  ·
   rw [if_neg c5] at H
   exact absurd H (by simp)
 ·
  rw [if_neg c3] at H
  exact absurd H (by simp)

end Go.Proofs.Ytmajngcgejkghaa.P

namespace Go.Proofs.Ytmajngcgejkghaa.P
open Go.RowKit Go.Proofs.YtmajngcgejkghaaW.PrintWords Go.Proofs.YtmajngcgejkghaaW.PrintLast Go.Proofs.YtmajngcgejkghaaW.PrintMore
attribute [local go_sem] max2_int min2_int max_two min_two max_three min_three max_four min_four   -- for this text's walks alone
set_option linter.unusedVariables false
set_option linter.unusedSimpArgs false

/-! ### instr_Text: function 20 -/
def instr_Text.l0 : Nat → ByteArray → List ByteArray → Int → Int → Option (ByteArray × Int)
 | 0, _, _, _, _ => none
 | k + 1, x5, x17, x18, x19 => if x19 < x18 then (if 0 ≤ x19 then (if x19 < (x17.length : Int) then (if x19 > 0 then (if x5.size + 1 ≤ 9223372036854775807 then (if 1 + (rdOf ByteArray.empty x17 x19).size ≤ 9223372036854775807 then (if (x5 ++ (⟨#[44]⟩ : ByteArray)).size + ((⟨#[32]⟩ : ByteArray) ++ (rdOf ByteArray.empty x17 x19)).size ≤ 9223372036854775807 then (instr_Text.l0 k ((x5 ++ (⟨#[44]⟩ : ByteArray)) ++ ((⟨#[32]⟩ : ByteArray) ++ (rdOf ByteArray.empty x17 x19))) x17 x18 (wrap64 (x19 + 1))) else (none)) else (none)) else (none)) else (if 1 + (rdOf ByteArray.empty x17 x19).size ≤ 9223372036854775807 then (if x5.size + ((⟨#[32]⟩ : ByteArray) ++ (rdOf ByteArray.empty x17 x19)).size ≤ 9223372036854775807 then (instr_Text.l0 k (x5 ++ ((⟨#[32]⟩ : ByteArray) ++ (rdOf ByteArray.empty x17 x19))) x17 x18 (wrap64 (x19 + 1))) else (none)) else (none))) else (none)) else (none)) else (some (x5, 0))
def instr_Text.f (k : Nat) (a0_0 : Int) (a0_1 : Int) (a0_2 : Int) (a0_3 : Int) (a0_4 : Int) : Option (ByteArray × Int) := (instr_Check.f k a0_0 a0_1 a0_2 a0_3 a0_4).bind fun t266 => (if t266 = 0 then ((instr_Name.f a0_0).bind fun t267 => ((instr_fields.f k a0_0 a0_1 a0_2 a0_3 a0_4).bind fun t268 => (instr_Text.l0 k t267 t268 (t268.length : Int) 0))) else (some ((⟨#[]⟩ : ByteArray), t266)))
theorem instr_Text.mono_l : ∀ k, (∀ y0 y1 y2 y3, LeO (instr_Text.l0 k y0 y1 y2 y3) (instr_Text.l0 (k + 1) y0 y1 y2 y3))
 | 0 => fun _ _ _ _ r h => by simp [instr_Text.l0] at h
 | k + 1 => by
  have ih0 := instr_Text.mono_l k
  ·
   intro y0 y1 y2 y3
   unfold instr_Text.l0
   repeat' first
   | (with_reducible exact ih0 _ _ _ _)
   | (with_reducible exact instr_Check.mono _ _ _ _ _ _)
   | (with_reducible exact instr_fields.mono _ _ _ _ _ _)
   | (with_reducible exact LeO.refl _)
   | (with_reducible exact LeO.none _)
   | (with_reducible refine LeO.ite ?_ ?_)
   | (with_reducible refine LeO.bind ?_ (fun _ => ?_))
   | exact LeO.none _
   | refine LeO.ite ?_ ?_
   | refine LeO.bind ?_ (fun _ => ?_)
theorem instr_Text.mono : ∀ a0 a1 a2 a3 a4 k, LeO (instr_Text.f k a0 a1 a2 a3 a4) (instr_Text.f (k + 1) a0 a1 a2 a3 a4) := by
 intro a0 a1 a2 a3 a4 k
 have ih0 := instr_Text.mono_l k
 unfold instr_Text.f
 repeat' first
  | (with_reducible exact ih0 _ _ _ _)
  | (with_reducible exact instr_Check.mono _ _ _ _ _ _)
  | (with_reducible exact instr_fields.mono _ _ _ _ _ _)
  | (with_reducible exact LeO.refl _)
  | (with_reducible exact LeO.none _)
  | (with_reducible refine LeO.ite ?_ ?_)
  | (with_reducible refine LeO.bind ?_ (fun _ => ?_))
  | exact LeO.none _
  | refine LeO.ite ?_ ?_
  | refine LeO.bind ?_ (fun _ => ?_)
set_option maxHeartbeats 8000000 in
set_option maxRecDepth 100000 in
theorem instr_Text.calls (k : Nat) (a0_0 : Int) (a0_1 : Int) (a0_2 : Int) (a0_3 : Int) (a0_4 : Int) (r1 : ByteArray) (r2 : Int) (w : World) (h : instr_Text.f k a0_0 a0_1 a0_2 a0_3 a0_4 = some (r1, r2)) :
 Calls Try.prog 20 #[.agg #[.int .i64 a0_0, .int .i64 a0_1, .int .i64 a0_2, .int .i64 a0_3, .int .i64 a0_4]] w fun e w' => e = .returned (.tuple #[.string r1, .int .i64 r2]) ∧ Below w.heap.size w w' := by
 have hu23 := Try.underlying23
 have HB := mK (Below.refl w.heap.size w)
 have H : ((instr_Check.f k a0_0 a0_1 a0_2 a0_3 a0_4).bind fun t266 => (if t266 = 0 then ((instr_Name.f a0_0).bind fun t267 => ((instr_fields.f k a0_0 a0_1 a0_2 a0_3 a0_4).bind fun t268 => (instr_Text.l0 k t267 t268 (t268.length : Int) 0))) else (some ((⟨#[]⟩ : ByteArray), t266)))) = some (r1, r2) := h
 clear h
 replace H := oB H
 obtain ⟨t266, A20, H⟩ := H
 replace H : (if t266 = 0 then ((instr_Name.f a0_0).bind fun t267 => ((instr_fields.f k a0_0 a0_1 a0_2 a0_3 a0_4).bind fun t268 => (instr_Text.l0 k t267 t268 (t268.length : Int) 0))) else (some ((⟨#[]⟩ : ByteArray), t266))) = some (r1, r2) := H
 have A2 := mK A20
 clear A20
 by_cases c3 : t266 = 0
 ·
  rw [if_pos c3] at H
  have c3b0 : (t266 == 0) = true := beq_iff_eq.mpr c3
  have c3b1 : (t266 != 0) = false := bR c3
  clear c3
  replace H := oB H
  obtain ⟨t267, A40, H⟩ := H
  replace H : ((instr_fields.f k a0_0 a0_1 a0_2 a0_3 a0_4).bind fun t268 => (instr_Text.l0 k t267 t268 (t268.length : Int) 0)) = some (r1, r2) := H
  have A4 := mK A40
  clear A40
  replace H := oB H
  obtain ⟨t268, A50, H⟩ := H
  replace H : (instr_Text.l0 k t267 t268 (t268.length : Int) 0) = some (r1, r2) := H
  have A5 := mK A50
  clear A50
  have H' := mK H
  clear H
  go_enter Try.func20, Try.ntmps20
  go_wp2_with (first | ((with_reducible refine gate_dst (N := 1) rfl ?_); refine box_event ?hg (N := 1) ?hd (cs := #[.int .i64 a0_0, .int .i64 a0_1, .int .i64 a0_2, .int .i64 a0_3, .int .i64 a0_4]) (t := 23) ?hr ?_; (case hd => rfl); (case hg => rfl); (case hr => first | (go_simp; done) | (go_simp; rfl)); intro gb265 hg w6 hbox hb; have n0_ := mK (bP (by repeat (first | (with_reducible first | exact HB.out | apply bA | apply bN | apply bD) | exact HB.out)) hb); have n1_ := mK (hbox); have n2_ := mK ((by rw [hg]; exact (bZ (by repeat (first | (with_reducible first | exact HB.out | apply bA | apply bN | apply bD) | exact HB.out))) : w.heap.size ≤ gb265)); have n3_ := mK ((by rw [hg]; exact (bZ (by repeat (first | (with_reducible first | exact HB.out | apply bA | apply bN | apply bD) | exact HB.out))) : w.heap.size ≤ gb265)); clear HB; have HB := n0_; have BK265 := n1_; have GW265 := n2_; have GE265 := n3_; clear n0_ n1_ n2_ n3_; clear hb hbox hg; obtain ⟨hcz7_0, hcz7_1, hcz7_2, hcz7_3, hcz7_4, hfz7_0, hfz7_1, hfz7_2, hfz7_3, hfz7_4⟩ := cf5 BK265.out) | ((with_reducible refine gate_callee (f := 12) rfl ?_); refine goesL_ (some 9) rfl rfl Try.func12 (by kernel_rfl) rfl #[.agg #[.int .i64 a0_0, .int .i64 a0_1, .int .i64 a0_2, .int .i64 a0_3, .int .i64 a0_4]] rfl (by (try simp only [List.map_toArray, List.map_cons, List.map_nil]); first | done | rfl) ?_; (with_reducible refine (instr_Check.calls k a0_0 a0_1 a0_2 a0_3 a0_4 t266 _ A2.out).mono ?_); rintro e w8 ⟨rfl, hb⟩; refine ⟨_, rfl, ?_⟩; have n0_ := mK (kB (g := gb265) (o := o5 a0_0 a0_1 a0_2 a0_3 a0_4 23) (by (with_reducible repeat (first | refine kN ?_ _ | refine kD ?_ | refine kA ?_ _)); exact BK265.out) hb); have n1_ := mK (bP (by repeat (first | (with_reducible first | exact HB.out | apply bA | apply bN | apply bD | refine bS ?_ GE265.out) | exact HB.out)) hb); clear BK265; clear HB; have BK265 := n0_; have HB := n1_; clear n0_ n1_; (try clear hb); obtain ⟨hcz9_0, hcz9_1, hcz9_2, hcz9_3, hcz9_4, hfz9_0, hfz9_1, hfz9_2, hfz9_3, hfz9_4⟩ := cf5 BK265.out) | ((with_reducible refine gate_callee (f := 15) rfl ?_); refine goesL_ (some 15) rfl rfl Try.func15 (by kernel_rfl) rfl #[.int .i64 a0_0] rfl (by (try simp only [List.map_toArray, List.map_cons, List.map_nil]); first | done | rfl) ?_; (with_reducible refine (instr_Name.calls a0_0 t267 _ A4.out).mono ?_); rintro e w10 ⟨rfl, hb⟩; refine ⟨_, rfl, ?_⟩; have n0_ := mK (kB (g := gb265) (o := o5 a0_0 a0_1 a0_2 a0_3 a0_4 23) (by (with_reducible repeat (first | refine kN ?_ _ | refine kD ?_ | refine kA ?_ _)); exact BK265.out) hb); have n1_ := mK (bP (by repeat (first | (with_reducible first | exact HB.out | apply bA | apply bN | apply bD | refine bS ?_ GE265.out) | exact HB.out)) hb); clear BK265; clear HB; have BK265 := n0_; have HB := n1_; clear n0_ n1_; (try clear hb); obtain ⟨hcz11_0, hcz11_1, hcz11_2, hcz11_3, hcz11_4, hfz11_0, hfz11_1, hfz11_2, hfz11_3, hfz11_4⟩ := cf5 BK265.out) | ((with_reducible refine gate_callee (f := 32) rfl ?_); refine goesL_ (some 17) rfl rfl Try.func32 (by kernel_rfl) rfl #[.agg #[.int .i64 a0_0, .int .i64 a0_1, .int .i64 a0_2, .int .i64 a0_3, .int .i64 a0_4]] rfl (by (try simp only [List.map_toArray, List.map_cons, List.map_nil]); first | done | rfl) ?_; (with_reducible refine (instr_fields.calls k a0_0 a0_1 a0_2 a0_3 a0_4 t268 _ A5.out).mono ?_); rintro e w12 ⟨v269, rfl, ho0, hb⟩; refine ⟨_, rfl, ?_⟩; have n0_ := mK (Kd.R_lower ho0 (bZ (by repeat (first | (with_reducible first | exact HB.out | apply bA | apply bN | apply bD | refine bS ?_ GE265.out) | exact HB.out)))); have n1_ := mK (kB (g := gb265) (o := o5 a0_0 a0_1 a0_2 a0_3 a0_4 23) (by (with_reducible repeat (first | refine kN ?_ _ | refine kD ?_ | refine kA ?_ _)); exact BK265.out) hb); have n2_ := mK (bP (by repeat (first | (with_reducible first | exact HB.out | apply bA | apply bN | apply bD | refine bS ?_ GE265.out) | exact HB.out)) hb); clear BK265; clear HB; have HO270 := n0_; have BK265 := n1_; have HB := n2_; clear n0_ n1_ n2_; (try clear hb); (try clear ho0); obtain ⟨Ao13, co13, eo13⟩ := Kd.R_slice HO270.out; subst eo13))
  go_loopg [5, 19] k (fun kq v5 v19 w' => ∃ (x5_1 : ByteArray) (x19_1 : Int), v5 = .string x5_1 ∧ v19 = .int .i64 x19_1 ∧ Aside0 (instr_Text.l0 kq x5_1 t268 (t268.length : Int) x19_1 = some (r1, r2)) ∧ Aside0 (kq ≤ k) ∧ Aside0 (Kd.R Kd.string 9 w' w.heap.size (fun _ => True) (.slice Ao13 t268.length co13) t268) ∧ Aside0 (w'.heap[gb265]? = some (o5 a0_0 a0_1 a0_2 a0_3 a0_4 23)) ∧ Aside0 (Below w.heap.size w w'))
  case atStart => exact ⟨(t267), (0), (by first | rfl | (simp; done) | (simp [*]; done)), (by first | rfl | (simp; done) | (simp [*]; done)), H', ⟨Nat.le_refl _⟩, ⟨by (with_reducible repeat (first | apply Kd.R_alloc | apply Kd.R_drewN | apply Kd.R_drew)); exact HO270.out⟩, ⟨by (with_reducible repeat (first | refine kN ?_ _ | refine kD ?_ | refine kA ?_ _)); exact BK265.out⟩, ⟨by repeat (first | (with_reducible first | exact HB.out | apply bA | apply bN | apply bD | refine bS ?_ GE265.out) | exact HB.out)⟩⟩
  case round =>
   clear H'
   (try clear c3); (try clear c3b0); (try clear c3b1); (try clear hcz11_0); (try clear hcz11_1); (try clear hcz11_2); (try clear hcz11_3); (try clear hcz11_4); (try clear hcz7_0); (try clear hcz7_1); (try clear hcz7_2); (try clear hcz7_3); (try clear hcz7_4); (try clear hcz9_0); (try clear hcz9_1); (try clear hcz9_2); (try clear hcz9_3); (try clear hcz9_4); (try clear hfz11_0); (try clear hfz11_1); (try clear hfz11_2); (try clear hfz11_3); (try clear hfz11_4); (try clear hfz7_0); (try clear hfz7_1); (try clear hfz7_2); (try clear hfz7_3); (try clear hfz7_4); (try clear hfz9_0); (try clear hfz9_1); (try clear hfz9_2); (try clear hfz9_3); (try clear hfz9_4)
   obtain ⟨x5_1, x19_1, rfl, rfl, HA, HK1, HO_17, BK265, HB⟩ := hrel
   cases gk with
   | zero => exact absurd HA.out (by simp [instr_Text.l0])
   | succ k1 =>
    have H := HA.out
    clear HA
    simp only [instr_Text.l0] at H
    by_cases c14 : x19_1 < (t268.length : Int)
    ·
     rw [if_pos c14] at H
     have c14b0 : decide (x19_1 < (t268.length : Int)) = true := decide_eq_true c14
     clear c14
     by_cases c15 : 0 ≤ x19_1
     ·
      rw [if_pos c15] at H
      have c15b0 : decide (0 ≤ x19_1) = true := decide_eq_true c15
      clear c15
      by_cases c16 : x19_1 < (t268.length : Int)
      ·
       rw [if_pos c16] at H
       have c16b0 : decide (x19_1 < (t268.length : Int)) = true := decide_eq_true c16
       clear c16
       by_cases c17 : x19_1 > 0
       ·
        rw [if_pos c17] at H
        have c17b0 : decide (0 < x19_1) = true := decide_eq_true c17
        clear c17
        by_cases c18 : x5_1.size + 1 ≤ 9223372036854775807
        ·
         rw [if_pos c18] at H
         have c18b0 := eq_true c18
         have c18b1 : decide (x5_1.size + 1 ≤ 9223372036854775807) = true := decide_eq_true c18
         try have c18b2 : (9223372036854775807 < x5_1.size + 1) = False := eq_false (Nat.not_lt.2 c18)
         by_cases c19 : 1 + (rdOf ByteArray.empty t268 x19_1).size ≤ 9223372036854775807
         ·
          rw [if_pos c19] at H
          have c19b0 := eq_true c19
          have c19b1 : decide (1 + (rdOf ByteArray.empty t268 x19_1).size ≤ 9223372036854775807) = true := decide_eq_true c19
          try have c19b2 : (9223372036854775807 < 1 + (rdOf ByteArray.empty t268 x19_1).size) = False := eq_false (Nat.not_lt.2 c19)
          by_cases c20 : (x5_1 ++ (⟨#[44]⟩ : ByteArray)).size + ((⟨#[32]⟩ : ByteArray) ++ (rdOf ByteArray.empty t268 x19_1)).size ≤ 9223372036854775807
          ·
           rw [if_pos c20] at H
           have c20b0 := eq_true c20
           have c20b1 : decide ((x5_1 ++ (⟨#[44]⟩ : ByteArray)).size + ((⟨#[32]⟩ : ByteArray) ++ (rdOf ByteArray.empty t268 x19_1)).size ≤ 9223372036854775807) = true := decide_eq_true c20
           try have c20b2 : (9223372036854775807 < (x5_1 ++ (⟨#[44]⟩ : ByteArray)).size + ((⟨#[32]⟩ : ByteArray) ++ (rdOf ByteArray.empty t268 x19_1)).size) = False := eq_false (Nat.not_lt.2 c20)
           have H' := mK H
           clear H
           have p271 : 0 ≤ (x19_1 : Int) := of_decide_eq_true (by first | (with_reducible assumption) | assumption)
           have q271 : x19_1 < (t268.length : Int) := of_decide_eq_true (by first | (with_reducible assumption) | assumption)
           obtain ⟨ad271, e271, hx271_0⟩ := Kd.at_string (Kd.R_reads' HO_17.out).2.2 x19_1 p271 q271
           cases e271
           replace p271 := eq_true p271
           replace q271 := eq_true q271
           go_wp2
           go_roundg k1
           case measure => have := HK1.out; omega
           case rel => exact ⟨((x5_1 ++ (⟨#[44]⟩ : ByteArray)) ++ ((⟨#[32]⟩ : ByteArray) ++ (rdOf ByteArray.empty t268 x19_1))), (wrap64 (x19_1 + 1)), (by first | rfl | (simp; done) | (simp [*]; done)), (by first | rfl | (simp; done) | (simp [*]; done)), H', ⟨by have := HK1.out; omega⟩, ⟨by (with_reducible repeat (first | apply Kd.R_alloc | apply Kd.R_drewN | apply Kd.R_drew)); exact HO_17.out⟩, ⟨by (with_reducible repeat (first | refine kN ?_ _ | refine kD ?_ | refine kA ?_ _)); exact BK265.out⟩, ⟨by repeat (first | (with_reducible first | exact HB.out | apply bA | apply bN | apply bD | refine bS ?_ GE265.out) | exact HB.out)⟩⟩
          ·
           rw [if_neg c20] at H
           exact absurd H (by simp)
         ·
          rw [if_neg c19] at H
          exact absurd H (by simp)
        ·
         rw [if_neg c18] at H
         exact absurd H (by simp)
       ·
        rw [if_neg c17] at H
        have c17b0 : decide (0 < x19_1) = false := decide_eq_false c17
        clear c17
        by_cases c21 : 1 + (rdOf ByteArray.empty t268 x19_1).size ≤ 9223372036854775807
        ·
         rw [if_pos c21] at H
         have c21b0 := eq_true c21
         have c21b1 : decide (1 + (rdOf ByteArray.empty t268 x19_1).size ≤ 9223372036854775807) = true := decide_eq_true c21
         try have c21b2 : (9223372036854775807 < 1 + (rdOf ByteArray.empty t268 x19_1).size) = False := eq_false (Nat.not_lt.2 c21)
         by_cases c22 : x5_1.size + ((⟨#[32]⟩ : ByteArray) ++ (rdOf ByteArray.empty t268 x19_1)).size ≤ 9223372036854775807
         ·
          rw [if_pos c22] at H
          have c22b0 := eq_true c22
          have c22b1 : decide (x5_1.size + ((⟨#[32]⟩ : ByteArray) ++ (rdOf ByteArray.empty t268 x19_1)).size ≤ 9223372036854775807) = true := decide_eq_true c22
          try have c22b2 : (9223372036854775807 < x5_1.size + ((⟨#[32]⟩ : ByteArray) ++ (rdOf ByteArray.empty t268 x19_1)).size) = False := eq_false (Nat.not_lt.2 c22)
          have H' := mK H
          clear H
          have p271 : 0 ≤ (x19_1 : Int) := of_decide_eq_true (by first | (with_reducible assumption) | assumption)
          have q271 : x19_1 < (t268.length : Int) := of_decide_eq_true (by first | (with_reducible assumption) | assumption)
          obtain ⟨ad271, e271, hx271_0⟩ := Kd.at_string (Kd.R_reads' HO_17.out).2.2 x19_1 p271 q271
          cases e271
          replace p271 := eq_true p271
          replace q271 := eq_true q271
          go_wp2
          go_roundg k1
          case measure => have := HK1.out; omega
          case rel => exact ⟨(x5_1 ++ ((⟨#[32]⟩ : ByteArray) ++ (rdOf ByteArray.empty t268 x19_1))), (wrap64 (x19_1 + 1)), (by first | rfl | (simp; done) | (simp [*]; done)), (by first | rfl | (simp; done) | (simp [*]; done)), H', ⟨by have := HK1.out; omega⟩, ⟨by (with_reducible repeat (first | apply Kd.R_alloc | apply Kd.R_drewN | apply Kd.R_drew)); exact HO_17.out⟩, ⟨by (with_reducible repeat (first | refine kN ?_ _ | refine kD ?_ | refine kA ?_ _)); exact BK265.out⟩, ⟨by repeat (first | (with_reducible first | exact HB.out | apply bA | apply bN | apply bD | refine bS ?_ GE265.out) | exact HB.out)⟩⟩
         ·
          rw [if_neg c22] at H
          exact absurd H (by simp)
        ·
         rw [if_neg c21] at H
         exact absurd H (by simp)
      ·
       rw [if_neg c16] at H
       exact absurd H (by simp)
     ·
      rw [if_neg c15] at H
      exact absurd H (by simp)
    ·
     rw [if_neg c14] at H
     have c14b0 : decide (x19_1 < (t268.length : Int)) = false := decide_eq_false c14
     clear c14
     simp only [Option.some.injEq, Prod.mk.injEq] at H
     obtain ⟨rfl, rfl⟩ := H
     go_wp2
     go_ret2
     exact ⟨by first | rfl | (simp [errW_none, errW_some] <;> rfl) | (simp [*, errW_none, errW_some] <;> rfl), by repeat (first | (with_reducible first | exact HB.out | apply bA | apply bN | apply bD | refine bS ?_ GE265.out) | exact HB.out)⟩
 ·
  rw [if_neg c3] at H
  have c3b0 : (t266 == 0) = false := bQ c3
  have c3b1 : (t266 != 0) = true := bne_iff_ne.mpr c3
  simp only [Option.some.injEq, Prod.mk.injEq] at H
  obtain ⟨rfl, rfl⟩ := H
  go_enter Try.func20, Try.ntmps20
  go_wp2_with (first | ((with_reducible refine gate_dst (N := 1) rfl ?_); refine box_event ?hg (N := 1) ?hd (cs := #[.int .i64 a0_0, .int .i64 a0_1, .int .i64 a0_2, .int .i64 a0_3, .int .i64 a0_4]) (t := 23) ?hr ?_; (case hd => rfl); (case hg => rfl); (case hr => first | (go_simp; done) | (go_simp; rfl)); intro gb265 hg w23 hbox hb; have n0_ := mK (bP (by repeat (first | (with_reducible first | exact HB.out | apply bA | apply bN | apply bD) | exact HB.out)) hb); have n1_ := mK (hbox); have n2_ := mK ((by rw [hg]; exact (bZ (by repeat (first | (with_reducible first | exact HB.out | apply bA | apply bN | apply bD) | exact HB.out))) : w.heap.size ≤ gb265)); have n3_ := mK ((by rw [hg]; exact (bZ (by repeat (first | (with_reducible first | exact HB.out | apply bA | apply bN | apply bD) | exact HB.out))) : w.heap.size ≤ gb265)); clear HB; have HB := n0_; have BK265 := n1_; have GW265 := n2_; have GE265 := n3_; clear n0_ n1_ n2_ n3_; clear hb hbox hg; obtain ⟨hcz24_0, hcz24_1, hcz24_2, hcz24_3, hcz24_4, hfz24_0, hfz24_1, hfz24_2, hfz24_3, hfz24_4⟩ := cf5 BK265.out) | ((with_reducible refine gate_callee (f := 12) rfl ?_); refine goesL_ (some 9) rfl rfl Try.func12 (by kernel_rfl) rfl #[.agg #[.int .i64 a0_0, .int .i64 a0_1, .int .i64 a0_2, .int .i64 a0_3, .int .i64 a0_4]] rfl (by (try simp only [List.map_toArray, List.map_cons, List.map_nil]); first | done | rfl) ?_; (with_reducible refine (instr_Check.calls k a0_0 a0_1 a0_2 a0_3 a0_4 t266 _ A2.out).mono ?_); rintro e w25 ⟨rfl, hb⟩; refine ⟨_, rfl, ?_⟩; have n0_ := mK (kB (g := gb265) (o := o5 a0_0 a0_1 a0_2 a0_3 a0_4 23) (by (with_reducible repeat (first | refine kN ?_ _ | refine kD ?_ | refine kA ?_ _)); exact BK265.out) hb); have n1_ := mK (bP (by repeat (first | (with_reducible first | exact HB.out | apply bA | apply bN | apply bD | refine bS ?_ GE265.out) | exact HB.out)) hb); clear BK265; clear HB; have BK265 := n0_; have HB := n1_; clear n0_ n1_; (try clear hb)))
  go_ret2
  exact ⟨by first | rfl | (simp [errW_none, errW_some] <;> rfl) | (simp [*, errW_none, errW_some] <;> rfl), by repeat (first | (with_reducible first | exact HB.out | apply bA | apply bN | apply bD | refine bS ?_ GE265.out) | exact HB.out)⟩

end Go.Proofs.Ytmajngcgejkghaa.P

namespace Go.Proofs.Ytmajngcgejkghaa.P
open Go.RowKit Go.Proofs.YtmajngcgejkghaaW.PrintWords Go.Proofs.YtmajngcgejkghaaW.PrintLast Go.Proofs.YtmajngcgejkghaaW.PrintMore
attribute [local go_sem] max2_int min2_int max_two min_two max_three min_three max_four min_four   -- for this text's walks alone
set_option linter.unusedVariables false
set_option linter.unusedSimpArgs false

/-! ### pascalineref01_Text: function 36 -/
open Go.Proofs.Ytmajngcgejkghaa.C
def pascalineref01_Text.f (n : Int) : Option ByteArray := if -9223372036854775808 ≤ n ∧ n < 9223372036854775808 then some (strOfNums (textOf n)) else none

/-- One round done: a is what is left, ds the digits done. -/
def pascalineref01_Text.Inv (kq : Nat) (A a : Int) (ds : List Int) : Prop :=
 0 ≤ a ∧ a < 2 ^ kq ∧ ∃ m, (0 < a ∨ 0 < m ∧ 1 ≤ kq) ∧ digs 10 kq a m ++ ds = digs 10 65 A 1 ∧ m ≤ 1 ∧ ds.length + kq = 65 ∧ a ≤ A
theorem pascalineref01_Text.Inv.pos {kq : Nat} {A a : Int} {ds : List Int} (h : pascalineref01_Text.Inv kq A a ds) : 1 ≤ kq := by
 obtain ⟨h0, h1, m, h2, _⟩ := h
 rcases Nat.eq_zero_or_pos kq with e | e
 ·
  subst e; simp at h1; omega
 ·
  exact e
theorem pascalineref01_Text.Inv.step {kq : Nat} {A a : Int} {ds : List Int} (h : pascalineref01_Text.Inv (kq + 1) A a ds) :
 (a / 10 = 0 → digs 10 65 A 1 = (48 + a % 10) :: ds) ∧ (¬ a / 10 = 0 → pascalineref01_Text.Inv kq A (a / 10) ((48 + a % 10) :: ds)) := by
 obtain ⟨h0, h1, m, h2, h3, h4, h5, h6⟩ := h
 have hd := digs_inv 10 (by omega) a kq h0 h1
 have hg : dg (a % 10) = 48 + a % 10 := (dg_lo _ (by omega)).symm
 rw [digs_succ, if_pos (by omega), List.append_assoc, List.singleton_append, hg] at h3
 have hm : m - 1 = 0 := by omega
 rw [hm] at h3
 refine ⟨fun e => ?_, fun e => ⟨hd.1, hd.2, 0, .inl (by omega), h3, by omega, by simp; omega, by omega⟩⟩
 rw [e, digs_zero] at h3
 exact h3.symm
theorem pascalineref01_Text.conv (W : World) (d : Int) :
 (convert 75 9 (.slice (some ⟨W.heap.size, 0, none⟩) 1 1)).run Try.prog (W.alloc (.cells #[.int .u8 d] 5)) = .ok (.string (strOfNums [d])) (W.alloc (.cells #[.int .u8 d] 5)) := by
 refine run_convert_bytes_arg (P := Try.prog) _ 75 5 Try.underlying75 Try.underlying5 _ 0 1 1 [d] rfl (fun i hi => ?_) 9 Try.underlying9
 obtain rfl : i = 0 := by omega
 rw [kC (blk_new W _)]
 rfl
theorem pascalineref01_Text.neg_tmod (x : Int) (h : 0 ≤ -x) : x.tmod 10 = -((-x) % 10) := by
 have e : x = -(-x) := by omega
 rw [e, Int.neg_tmod, Int.tmod_eq_emod_of_nonneg h, Int.neg_neg]
theorem pascalineref01_Text.neg_tdiv (x : Int) (h : 0 ≤ -x) : x.tdiv 10 = -((-x) / 10) := by
 have e : x = -(-x) := by omega
 rw [e, Int.neg_tdiv, Int.tdiv_eq_ediv_of_nonneg h, Int.neg_neg]
theorem pascalineref01_Text.dig1 (x : Int) (h : x.tmod 10 = -((-x) % 10)) : 48 + -x.tmod 10 = 48 + -x % 10 := by omega
theorem pascalineref01_Text.dig2 (x : Int) (h : x.tmod 10 = -((-x) % 10)) (h2 : 0 ≤ x.tmod 10) : 48 + x.tmod 10 = 48 + -x % 10 := by omega
theorem pascalineref01_Text.join (d : Int) (ds : List Int) : strOfNums [d] ++ strOfNums ds = strOfNums (d :: ds) := (strOfNums_cons d ds).symm
theorem pascalineref01_Text.fin (d : Int) (ds : List Int) : strOfNums (45 :: d :: ds) = (⟨#[45]⟩ : ByteArray) ++ (strOfNums [d] ++ strOfNums ds) := by
 rw [show (45 : Int) :: d :: ds = [45] ++ ([d] ++ ds) from rfl, strOfNums_append, strOfNums_append]; rfl

set_option maxHeartbeats 400000 in
set_option maxRecDepth 100000 in
theorem pascalineref01_Text.calls (n : Int) (r : ByteArray) (w : World) (h : pascalineref01_Text.f n = some r) :
 Calls Try.prog 36 #[.int .i64 n] w fun e w' => e = .returned (.string r) ∧ Below w.heap.size w w' := by
 unfold pascalineref01_Text.f at h
 by_cases hb : -9223372036854775808 ≤ n ∧ n < 9223372036854775808
 ·
  rw [if_pos hb] at h
  injection h with h
  have HR := mK h
  clear h
  by_cases hn : n < 0
  ·
   have HT : Aside0 (textOf n = 45 :: digs 10 65 (-n) 1) := ⟨if_pos hn⟩
   have hnb : decide (n < 0) = true := decide_eq_true hn
   go_enter Try.func36, Try.ntmps36
   go_wp2
   go_loopg [3, 4] 65 (fun kq v3 v4 w' => ∃ (ds : List Int) (x : Int), v3 = .string (strOfNums ds) ∧ v4 = .int .i64 x ∧ Aside0 (pascalineref01_Text.Inv kq (-n) (-x) ds) ∧ Aside0 (Below w.heap.size w w'))
   case atStart =>
    refine ⟨[], n, rfl, rfl, ⟨by omega, by omega, 1, by omega, by simp, by omega, by simp, by omega⟩, ⟨Below.refl _ _⟩⟩
   case round =>
    obtain ⟨ds, x, rfl, rfl, HI, HB⟩ := hrel
    have hx0 := HI.out.1
    have hk := HI.out.pos
    obtain ⟨k, rfl⟩ : ∃ k, gk = k + 1 := ⟨gk - 1, by omega⟩
    have hs : (strOfNums ds).size ≤ 1000 := by have := HI.out.2.2; rw [strOfNums_size]; obtain ⟨m, _, _, _, h5, _⟩ := this; omega
    have hxn : -x ≤ -n := by obtain ⟨m, _, _, _, _, h6⟩ := HI.out.2.2; exact h6
    have ht : x.tmod 10 = -((-x) % 10) := pascalineref01_Text.neg_tmod x hx0
    have hq : x.tdiv 10 = -((-x) / 10) := pascalineref01_Text.neg_tdiv x hx0
    have ht0 : x.tmod 10 ≤ 0 := by omega
    have ht1 : -10 < x.tmod 10 := by omega
    have hq0 : x.tdiv 10 ≤ 0 := by omega
    have hq1 : x ≤ x.tdiv 10 := by omega
    have HT2 := mK ht
    have HQ2 := mK hq
    clear ht hq
    obtain ⟨hb0, hb1⟩ := hb
    by_cases hd : x.tmod 10 < 0
    all_goals
     first | have hcv := pascalineref01_Text.conv wr (48 + -x.tmod 10) | skip
     have hcv2 := pascalineref01_Text.conv wr (48 + x.tmod 10)
     have hs1 : (strOfNums [48 + x.tmod 10]).size ≤ 1 := by rw [strOfNums_size]; simp
     have hs2 : (strOfNums [48 + -x.tmod 10]).size ≤ 1 := by rw [strOfNums_size]; simp
     by_cases hz : x.tdiv 10 = 0
     ·
      have hzb : (x.tdiv 10 == 0) = true := beq_iff_eq.mpr hz
      have HE := mK (HI.out.step.1 (by have := HQ2.out; omega))
      clear hz
      go_wp2
      go_ret
      exact ⟨by rw [← HR.out, HT.out, HE.out, pascalineref01_Text.fin]; first | (rw [← pascalineref01_Text.dig1 x HT2.out]; rfl) | (rw [← pascalineref01_Text.dig2 x HT2.out hd]; rfl), bA HB.out _⟩
     ·
      have hzb : (x.tdiv 10 == 0) = false := bQ hz
      have HE := mK (HI.out.step.2 (by have := HQ2.out; omega))
      clear hz
      go_wp2
      go_roundg k
      case measure => omega
      case rel => exact ⟨(48 + -x % 10) :: ds, x.tdiv 10, by first | (rw [pascalineref01_Text.join, ← pascalineref01_Text.dig1 x HT2.out]; done) | (rw [pascalineref01_Text.join, ← pascalineref01_Text.dig2 x HT2.out hd]; done), rfl, ⟨by have h1 := HE.out; have h2 := HQ2.out; rw [show -(x.tdiv 10) = -x / 10 by omega]; exact h1⟩, ⟨bA HB.out _⟩⟩
  ·
   have HT : Aside0 (textOf n = digs 10 65 n 1) := ⟨if_neg hn⟩
   have hnb : decide (n < 0) = false := decide_eq_false hn
   have hn0 : 0 ≤ n := by omega
   go_enter Try.func36, Try.ntmps36
   go_wp2
   go_loopg [3, 4] 65 (fun kq v3 v4 w' => ∃ (ds : List Int) (x : Int), v3 = .string (strOfNums ds) ∧ v4 = .int .i64 x ∧ Aside0 (pascalineref01_Text.Inv kq n x ds) ∧ Aside0 (Below w.heap.size w w'))
   case atStart =>
    refine ⟨[], n, rfl, rfl, ⟨by omega, by omega, 1, by omega, by simp, by omega, by simp, by omega⟩, ⟨Below.refl _ _⟩⟩
   case round =>
    obtain ⟨ds, x, rfl, rfl, HI, HB⟩ := hrel
    have hx0 := HI.out.1
    have hk := HI.out.pos
    obtain ⟨k, rfl⟩ : ∃ k, gk = k + 1 := ⟨gk - 1, by omega⟩
    have hm0 : 0 ≤ x % 10 := by omega
    have hm1 : x % 10 < 10 := by omega
    have hs : (strOfNums ds).size ≤ 1000 := by have := HI.out.2.2; rw [strOfNums_size]; obtain ⟨m, _, _, _, h5, _⟩ := this; omega
    have hs1 : (strOfNums [48 + x % 10]).size ≤ 1 := by rw [strOfNums_size]; simp
    have hcv := pascalineref01_Text.conv wr (48 + x % 10)
    have hxn : x ≤ n := by obtain ⟨m, _, _, _, _, h6⟩ := HI.out.2.2; exact h6
    obtain ⟨hb0, hb1⟩ := hb
    by_cases hz : x / 10 = 0
    ·
     have hzb : (x / 10 == 0) = true := beq_iff_eq.mpr hz
     have HE := mK (HI.out.step.1 hz)
     clear hz
     go_wp2
     go_ret
     exact ⟨by rw [← HR.out, HT.out, HE.out, ← pascalineref01_Text.join]; rfl, bA HB.out _⟩
    ·
     have hzb : (x / 10 == 0) = false := bQ hz
     have HE := mK (HI.out.step.2 hz)
     clear hz
     go_wp2
     go_roundg k
     case measure => omega
     case rel => exact ⟨(48 + x % 10) :: ds, x / 10, by rw [pascalineref01_Text.join], rfl, HE, ⟨bA HB.out _⟩⟩
 ·
  rw [if_neg hb] at h; cases h

end Go.Proofs.Ytmajngcgejkghaa.P

namespace Go.Proofs.Ytmajngcgejkghaa.P
open Go.RowKit Go.Proofs.YtmajngcgejkghaaW.PrintWords Go.Proofs.YtmajngcgejkghaaW.PrintLast Go.Proofs.YtmajngcgejkghaaW.PrintMore
attribute [local go_sem] max2_int min2_int max_two min_two max_three min_three max_four min_four   -- for this text's walks alone
set_option linter.unusedVariables false
set_option linter.unusedSimpArgs false

/-! ### pascalineref02_Fields: function 24 -/
mutual
def pascalineref02_Fields.j0 : Nat → Bool → Bool → List ByteArray → Int → Int → Int → Int → Int → Option (List ByteArray)
 | 0, _, _, _, _, _, _, _, _ => none
 | k + 1, x4, x5, x6, x273000, x273001, x273002, x273003, x273004 => if x4 = true then ((pascalineref01_Text.f x273002).bind fun t281 => (if 1 + t281.size ≤ 9223372036854775807 then (if x273000 = 26 then ((pascalineref01_Text.f x273002).bind fun t282 => (if x6.length < 8796093022208 then (pascalineref02_Fields.j1 k x5 (x6 ++ [t282]) x273000 x273001 x273002 x273003 x273004) else (none))) else (if x6.length < 8796093022208 then (pascalineref02_Fields.j1 k x5 (x6 ++ [(⟨#[114]⟩ : ByteArray) ++ t281]) x273000 x273001 x273002 x273003 x273004) else (none))) else (none))) else (pascalineref02_Fields.j1 k x5 x6 x273000 x273001 x273002 x273003 x273004)
def pascalineref02_Fields.j1 : Nat → Bool → List ByteArray → Int → Int → Int → Int → Int → Option (List ByteArray)
 | 0, _, _, _, _, _, _, _ => none
 | k + 1, x5, x6, x273000, x273001, x273002, x273003, x273004 => if x5 = true then ((pascalineref01_Text.f x273003).bind fun t289 => (if 1 + t289.size ≤ 9223372036854775807 then (if x6.length < 8796093022208 then (pascalineref02_Fields.j2 k (x6 ++ [(⟨#[114]⟩ : ByteArray) ++ t289]) x273000 x273001 x273002 x273003 x273004) else (none)) else (none))) else (pascalineref02_Fields.j2 k x6 x273000 x273001 x273002 x273003 x273004)
def pascalineref02_Fields.j2 : Nat → List ByteArray → Int → Int → Int → Int → Int → Option (List ByteArray)
 | 0, _, _, _, _, _, _ => none
 | k + 1, x6, x273000, x273001, x273002, x273003, x273004 => (pascalineref02_Shape.f k x273000).bind fun t293 => (if t293 = 0 then (some x6) else (if t293 = 5 then (some x6) else (if t293 = 6 then (some x6) else ((pascalineref01_Text.f x273004).bind fun t294 => (if x6.length < 8796093022208 then (some (x6 ++ [t294])) else (none))))))
end
def pascalineref02_Fields.f (k : Nat) (a0_0 : Int) (a0_1 : Int) (a0_2 : Int) (a0_3 : Int) (a0_4 : Int) : Option (List ByteArray) := (pascalineref02_Shape.f k a0_0).bind fun t273 => ((pascalineref02_has.f t273).bind fun bt274 => (if bt274.1 = true then ((pascalineref01_Text.f a0_1).bind fun t277 => (if 1 + t277.size ≤ 9223372036854775807 then (if ([] : List ByteArray).length < 8796093022208 then (pascalineref02_Fields.j0 k bt274.2.1 bt274.2.2 (([] : List ByteArray) ++ [(⟨#[114]⟩ : ByteArray) ++ t277]) a0_0 a0_1 a0_2 a0_3 a0_4) else (none)) else (none))) else (pascalineref02_Fields.j0 k bt274.2.1 bt274.2.2 ([] : List ByteArray) a0_0 a0_1 a0_2 a0_3 a0_4)))
theorem pascalineref02_Fields.mono_l : ∀ k, (∀ y0 y1 y2 y3 y4 y5 y6 y7, LeO (pascalineref02_Fields.j0 k y0 y1 y2 y3 y4 y5 y6 y7) (pascalineref02_Fields.j0 (k + 1) y0 y1 y2 y3 y4 y5 y6 y7)) ∧ (∀ y0 y1 y2 y3 y4 y5 y6, LeO (pascalineref02_Fields.j1 k y0 y1 y2 y3 y4 y5 y6) (pascalineref02_Fields.j1 (k + 1) y0 y1 y2 y3 y4 y5 y6)) ∧ (∀ y0 y1 y2 y3 y4 y5, LeO (pascalineref02_Fields.j2 k y0 y1 y2 y3 y4 y5) (pascalineref02_Fields.j2 (k + 1) y0 y1 y2 y3 y4 y5))
 | 0 => ⟨fun _ _ _ _ _ _ _ _ r h => by simp [pascalineref02_Fields.j0] at h, fun _ _ _ _ _ _ _ r h => by simp [pascalineref02_Fields.j1] at h, fun _ _ _ _ _ _ r h => by simp [pascalineref02_Fields.j2] at h⟩
 | k + 1 => by
  obtain ⟨ih0, ih1, ih2⟩ := pascalineref02_Fields.mono_l k
  refine ⟨?_, ?_, ?_⟩
  ·
   intro y0 y1 y2 y3 y4 y5 y6 y7
   unfold pascalineref02_Fields.j0
   repeat' first
   | (with_reducible exact ih0 _ _ _ _ _ _ _ _)
   | (with_reducible exact ih1 _ _ _ _ _ _ _)
   | (with_reducible exact ih2 _ _ _ _ _ _)
   | (with_reducible exact pascalineref02_Shape.mono _ _)
   | (with_reducible exact LeO.refl _)
   | (with_reducible exact LeO.none _)
   | (with_reducible refine LeO.ite ?_ ?_)
   | (with_reducible refine LeO.bind ?_ (fun _ => ?_))
   | exact LeO.none _
   | refine LeO.ite ?_ ?_
   | refine LeO.bind ?_ (fun _ => ?_)
  ·
   intro y0 y1 y2 y3 y4 y5 y6
   unfold pascalineref02_Fields.j1
   repeat' first
   | (with_reducible exact ih0 _ _ _ _ _ _ _ _)
   | (with_reducible exact ih1 _ _ _ _ _ _ _)
   | (with_reducible exact ih2 _ _ _ _ _ _)
   | (with_reducible exact pascalineref02_Shape.mono _ _)
   | (with_reducible exact LeO.refl _)
   | (with_reducible exact LeO.none _)
   | (with_reducible refine LeO.ite ?_ ?_)
   | (with_reducible refine LeO.bind ?_ (fun _ => ?_))
   | exact LeO.none _
   | refine LeO.ite ?_ ?_
   | refine LeO.bind ?_ (fun _ => ?_)
  ·
   intro y0 y1 y2 y3 y4 y5
   unfold pascalineref02_Fields.j2
   repeat' first
   | (with_reducible exact ih0 _ _ _ _ _ _ _ _)
   | (with_reducible exact ih1 _ _ _ _ _ _ _)
   | (with_reducible exact ih2 _ _ _ _ _ _)
   | (with_reducible exact pascalineref02_Shape.mono _ _)
   | (with_reducible exact LeO.refl _)
   | (with_reducible exact LeO.none _)
   | (with_reducible refine LeO.ite ?_ ?_)
   | (with_reducible refine LeO.bind ?_ (fun _ => ?_))
   | exact LeO.none _
   | refine LeO.ite ?_ ?_
   | refine LeO.bind ?_ (fun _ => ?_)
theorem pascalineref02_Fields.mono : ∀ a0 a1 a2 a3 a4 k, LeO (pascalineref02_Fields.f k a0 a1 a2 a3 a4) (pascalineref02_Fields.f (k + 1) a0 a1 a2 a3 a4) := by
 intro a0 a1 a2 a3 a4 k
 obtain ⟨ih0, ih1, ih2⟩ := pascalineref02_Fields.mono_l k
 unfold pascalineref02_Fields.f
 repeat' first
  | (with_reducible exact ih0 _ _ _ _ _ _ _ _)
  | (with_reducible exact ih1 _ _ _ _ _ _ _)
  | (with_reducible exact ih2 _ _ _ _ _ _)
  | (with_reducible exact pascalineref02_Shape.mono _ _)
  | (with_reducible exact LeO.refl _)
  | (with_reducible exact LeO.none _)
  | (with_reducible refine LeO.ite ?_ ?_)
  | (with_reducible refine LeO.bind ?_ (fun _ => ?_))
  | exact LeO.none _
  | refine LeO.ite ?_ ?_
  | refine LeO.bind ?_ (fun _ => ?_)
set_option maxHeartbeats 8000000 in
set_option maxRecDepth 100000 in
theorem pascalineref02_Fields.calls (k : Nat) (a0_0 : Int) (a0_1 : Int) (a0_2 : Int) (a0_3 : Int) (a0_4 : Int) (r : List ByteArray) (w : World) (h : pascalineref02_Fields.f k a0_0 a0_1 a0_2 a0_3 a0_4 = some r) :
 Calls Try.prog 24 #[.agg #[.int .i64 a0_0, .int .i64 a0_1, .int .i64 a0_2, .int .i64 a0_3, .int .i64 a0_4]] w fun e w' => ∃ v0_ : Value, e = .returned (v0_) ∧ Kd.R Kd.string 9 w' w.heap.size (fun _ => True) v0_ r ∧ Below w.heap.size w w' := by
 have hu31 := Try.underlying31
 have HB := mK (Below.refl w.heap.size w)
 have H : ((pascalineref02_Shape.f k a0_0).bind fun t273 => ((pascalineref02_has.f t273).bind fun bt274 => (if bt274.1 = true then ((pascalineref01_Text.f a0_1).bind fun t277 => (if 1 + t277.size ≤ 9223372036854775807 then (if ([] : List ByteArray).length < 8796093022208 then (pascalineref02_Fields.j0 k bt274.2.1 bt274.2.2 (([] : List ByteArray) ++ [(⟨#[114]⟩ : ByteArray) ++ t277]) a0_0 a0_1 a0_2 a0_3 a0_4) else (none)) else (none))) else (pascalineref02_Fields.j0 k bt274.2.1 bt274.2.2 ([] : List ByteArray) a0_0 a0_1 a0_2 a0_3 a0_4)))) = some r := h
 clear h
 replace H := oB H
 obtain ⟨t273, A20, H⟩ := H
 replace H : ((pascalineref02_has.f t273).bind fun bt274 => (if bt274.1 = true then ((pascalineref01_Text.f a0_1).bind fun t277 => (if 1 + t277.size ≤ 9223372036854775807 then (if ([] : List ByteArray).length < 8796093022208 then (pascalineref02_Fields.j0 k bt274.2.1 bt274.2.2 (([] : List ByteArray) ++ [(⟨#[114]⟩ : ByteArray) ++ t277]) a0_0 a0_1 a0_2 a0_3 a0_4) else (none)) else (none))) else (pascalineref02_Fields.j0 k bt274.2.1 bt274.2.2 ([] : List ByteArray) a0_0 a0_1 a0_2 a0_3 a0_4))) = some r := H
 have A2 := mK A20
 clear A20
 replace H := oB H
 obtain ⟨⟨t274, t275, t276⟩, A30, H⟩ := H
 replace H : (if t274 = true then ((pascalineref01_Text.f a0_1).bind fun t277 => (if 1 + t277.size ≤ 9223372036854775807 then (if ([] : List ByteArray).length < 8796093022208 then (pascalineref02_Fields.j0 k t275 t276 (([] : List ByteArray) ++ [(⟨#[114]⟩ : ByteArray) ++ t277]) a0_0 a0_1 a0_2 a0_3 a0_4) else (none)) else (none))) else (pascalineref02_Fields.j0 k t275 t276 ([] : List ByteArray) a0_0 a0_1 a0_2 a0_3 a0_4)) = some r := H
 have A3 := mK A30
 clear A30
 have HC4 := mK H
 clear H
 go_enter Try.func24, Try.ntmps24
 go_upto_if 17 with (first | ((with_reducible refine gate_dst (N := 1) rfl ?_); refine box_event ?hg (N := 1) ?hd (cs := #[.int .i64 a0_0, .int .i64 a0_1, .int .i64 a0_2, .int .i64 a0_3, .int .i64 a0_4]) (t := 31) ?hr ?_; (case hd => rfl); (case hg => rfl); (case hr => first | (go_simp; done) | (go_simp; rfl)); intro gb272 hg w5 hbox hb; have n0_ := mK (bP (by repeat (first | (with_reducible first | exact HB.out | apply bA | apply bN | apply bD) | exact HB.out)) hb); have n1_ := mK (hbox); have n2_ := mK ((by rw [hg]; exact (bZ (by repeat (first | (with_reducible first | exact HB.out | apply bA | apply bN | apply bD) | exact HB.out))) : w.heap.size ≤ gb272)); have n3_ := mK ((by rw [hg]; exact (bZ (by repeat (first | (with_reducible first | exact HB.out | apply bA | apply bN | apply bD) | exact HB.out))) : w.heap.size ≤ gb272)); clear HB; have HB := n0_; have BK272 := n1_; have GW272 := n2_; have GE272 := n3_; clear n0_ n1_ n2_ n3_; clear hb hbox hg; obtain ⟨hcz6_0, hcz6_1, hcz6_2, hcz6_3, hcz6_4, hfz6_0, hfz6_1, hfz6_2, hfz6_3, hfz6_4⟩ := cf5 BK272.out) | ((with_reducible refine gate_callee (f := 14) rfl ?_); refine goesL_ (some 12) rfl rfl Try.func14 (by kernel_rfl) rfl #[.int .i64 a0_0] rfl (by (try simp only [List.map_toArray, List.map_cons, List.map_nil]); first | done | rfl) ?_; (with_reducible refine (pascalineref02_Shape.calls k a0_0 t273 _ A2.out).mono ?_); rintro e w' ⟨rfl, ⟨nd, rfl⟩⟩; refine ⟨_, rfl, ?_⟩) | ((with_reducible refine gate_callee (f := 30) rfl ?_); refine goesL_ (some 13) rfl rfl Try.func30 (by kernel_rfl) rfl #[.int .i64 t273] rfl (by (try simp only [List.map_toArray, List.map_cons, List.map_nil]); first | done | rfl) ?_; (with_reducible refine (pascalineref02_has.calls t273 t274 t275 t276 _ A3.out).mono ?_); rintro e w' ⟨rfl, ⟨nd, rfl⟩⟩; refine ⟨_, rfl, ?_⟩))
 (try simp only [Act.put, List.setIfInBounds_toArray, List.set_cons_zero, List.set_cons_succ])
 go_cut [6] (fun v6 wc => ∃ (kq : Nat) (x6_3 : List ByteArray), Aside0 (pascalineref02_Fields.j0 kq t275 t276 x6_3 a0_0 a0_1 a0_2 a0_3 a0_4 = some r) ∧ Aside0 (kq ≤ k) ∧ Aside0 (Kd.R Kd.string 9 wc w.heap.size (fun _ => True) v6 x6_3) ∧ Aside0 (wc.heap[gb272]? = some (o5 a0_0 a0_1 a0_2 a0_3 a0_4 31)) ∧ Aside0 (Below w.heap.size w wc))
 case first =>
  have H := HC4.out
  clear HC4
  by_cases c7 : t274 = true
  ·
   subst c7
   have H1 : ((pascalineref01_Text.f a0_1).bind fun t277 => (if 1 + t277.size ≤ 9223372036854775807 then (if ([] : List ByteArray).length < 8796093022208 then (pascalineref02_Fields.j0 k t275 t276 (([] : List ByteArray) ++ [(⟨#[114]⟩ : ByteArray) ++ t277]) a0_0 a0_1 a0_2 a0_3 a0_4) else (none)) else (none))) = some r := by rw [if_pos rfl] at H; exact H
   clear H
   have H := H1
   clear H1
   replace H := oB H
   obtain ⟨t277, A80, H⟩ := H
   replace H : (if 1 + t277.size ≤ 9223372036854775807 then (if ([] : List ByteArray).length < 8796093022208 then (pascalineref02_Fields.j0 k t275 t276 (([] : List ByteArray) ++ [(⟨#[114]⟩ : ByteArray) ++ t277]) a0_0 a0_1 a0_2 a0_3 a0_4) else (none)) else (none)) = some r := H
   have A8 := mK A80
   clear A80
   by_cases c9 : 1 + t277.size ≤ 9223372036854775807
   ·
    rw [if_pos c9] at H
    have c9b0 := eq_true c9
    have c9b1 : decide (1 + t277.size ≤ 9223372036854775807) = true := decide_eq_true c9
    try have c9b2 : (9223372036854775807 < 1 + t277.size) = False := eq_false (Nat.not_lt.2 c9)
    by_cases c10 : ([] : List ByteArray).length < 8796093022208
    ·
     rw [if_pos c10] at H
     have LMc10 := mK c10
     clear c10
     obtain ⟨y278, hy278⟩ : ∃ y_ : List ByteArray, y_ = (([] : List ByteArray) ++ [(⟨#[114]⟩ : ByteArray) ++ t277]) := ⟨_, rfl⟩
     replace H : (pascalineref02_Fields.j0 k t275 t276 y278 a0_0 a0_1 a0_2 a0_3 a0_4) = some r := by first | (rw [hy278]; with_reducible exact H) | (have H2_ := (Option.bind_some _ _).symm.trans H; rw [hy278]; with_reducible exact H2_) | (have H2_ := (Option.bind_some _ _).symm.trans H; with_reducible exact H2_) | with_reducible exact H | (rw [hy278]; exact H) | exact H
     have Ny278 := mK hy278
     clear hy278
     have H' := mK H
     clear H
     obtain ⟨hcz11_0, hcz11_1, hcz11_2, hcz11_3, hcz11_4, hfz11_0, hfz11_1, hfz11_2, hfz11_3, hfz11_4⟩ := cf5 BK272.out
     go_wp2_with (first | ((with_reducible refine gate_callee (f := 36) rfl ?_); refine goesL_ (some 21) rfl rfl Try.func36 (by kernel_rfl) rfl #[.int .i64 a0_1] rfl (by (try simp only [List.map_toArray, List.map_cons, List.map_nil]); first | done | rfl) ?_; (with_reducible refine (pascalineref01_Text.calls a0_1 t277 _ A8.out).mono ?_); rintro e w12 ⟨rfl, hb⟩; refine ⟨_, rfl, ?_⟩; have n0_ := mK (kB (g := gb272) (o := o5 a0_0 a0_1 a0_2 a0_3 a0_4 31) (by (with_reducible repeat (first | refine kN ?_ _ | refine kD ?_ | refine kA ?_ _)); exact BK272.out) hb); have n1_ := mK (bP (by repeat (first | (with_reducible first | exact HB.out | apply bA | apply bN | apply bD | refine bS ?_ GE272.out) | exact HB.out)) hb); clear BK272; clear HB; have BK272 := n0_; have HB := n1_; clear n0_ n1_; (try clear hb); (try clear hk)) | ((with_reducible refine gate_builtin (b := .append) (xs := #[.tmp 18, .tmp 23]) rfl ?_); at_builtin; refine Kd.R_append Kd.string (w0 := w) w.heap.size rfl (.tmp 18) (.tmp 23) 45 9 (.string ⟨#[]⟩) 16 rfl Try.underlying45 info9 rfl (by decide) (by omega) (.slice none 0 0) ([] : List ByteArray) ((⟨#[114]⟩ : ByteArray) ++ t277) [.string ((⟨#[114]⟩ : ByteArray) ++ t277)] (fun _ => True) (fun _ => False) rfl rfl ?aP (fun _ hk => hk.elim) ?aF ?aO ?aB ?aS ?aL ?_; (case aP => exact rfl); (case aB => exact (by repeat (first | (with_reducible first | exact HB.out | apply bA | apply bN | apply bD | refine bS ?_ GE272.out) | exact HB.out))); (case aF => exact (fun _ _ => trivial)); (case aO => exact ((Kd.R_nil _ _ _ _ (fun _ => True)))); (case aS => exact (bZ (by repeat (first | (with_reducible first | exact HB.out | apply bA | apply bN | apply bD | refine bS ?_ GE272.out) | exact HB.out)))); (case aL => have := LMc10.out; omega); intro v279 w13 ho hb hg hat; rw [← Ny278.out] at ho; have n0_ := mK (blk_grown (g := gb272) (o := o5 a0_0 a0_1 a0_2 a0_3 a0_4 31) (by (with_reducible repeat (first | refine kN ?_ _ | refine kD ?_ | refine kA ?_ _)); exact BK272.out) hg (by simp [Value.ownBlock])); have n1_ := mK (hb); have n2_ := mK (ho); clear BK272; clear HB; have BK272 := n0_; have HB := n1_; have HO280 := n2_; clear n0_ n1_ n2_; clear ho hb hg hat))
     go_meet
     case rel => exact ⟨_, (y278), H', ⟨by first | omega | exact Nat.le_refl _⟩, ⟨by (with_reducible repeat (first | apply Kd.R_alloc | apply Kd.R_drewN | apply Kd.R_drew)); exact HO280.out⟩, ⟨by (with_reducible repeat (first | refine kN ?_ _ | refine kD ?_ | refine kA ?_ _)); exact BK272.out⟩, ⟨by repeat (first | (with_reducible first | exact HB.out | apply bA | apply bN | apply bD | refine bS ?_ GE272.out) | exact HB.out)⟩⟩
    ·
     rw [if_neg c10] at H
     exact absurd H (by simp)
   ·
    rw [if_neg c9] at H
    exact absurd H (by simp)
  ·
   replace c7 := Bool.eq_false_iff.mpr c7
   subst c7
   have H1 : (pascalineref02_Fields.j0 k t275 t276 ([] : List ByteArray) a0_0 a0_1 a0_2 a0_3 a0_4) = some r := by rw [if_neg (show ¬ (false = true) by decide)] at H; exact H
   clear H
   have H := H1
   clear H1
   have H' := mK H
   clear H
   go_wp2
   go_meet
   case rel => exact ⟨_, (([] : List ByteArray)), H', ⟨by first | omega | exact Nat.le_refl _⟩, ⟨by first | exact Kd.R_nil _ _ _ _ _ | exact Kd.N_nil _ _ _ _ _ | exact Kd.V_nil _ _ _ _ _ | exact Kd.Q_nil _ _ _ _ _ | exact Kd.S_nil _ _ _ _ _⟩, ⟨by (with_reducible repeat (first | refine kN ?_ _ | refine kD ?_ | refine kA ?_ _)); exact BK272.out⟩, ⟨by repeat (first | (with_reducible first | exact HB.out | apply bA | apply bN | apply bD | refine bS ?_ GE272.out) | exact HB.out)⟩⟩
 case rest =>
  clear HC4
  (try clear hcz6_0); (try clear hcz6_1); (try clear hcz6_2); (try clear hcz6_3); (try clear hcz6_4); (try clear hfz6_0); (try clear hfz6_1); (try clear hfz6_2); (try clear hfz6_3); (try clear hfz6_4)
  obtain ⟨kq, x6_3, HA, HJ3, HO_6, BK272, HB⟩ := hcut
  cases kq with
  | zero => exact absurd HA.out (by simp [pascalineref02_Fields.j0])
  | succ kj3 =>
   have H := HA.out
   clear HA
   simp only [pascalineref02_Fields.j0] at H
   have HC14 := mK H
   clear H
   go_upto_if 25 with (fail)
   go_cut [6] (fun v6 wc => ∃ (kq : Nat) (x6_13 : List ByteArray), Aside0 (pascalineref02_Fields.j1 kq t276 x6_13 a0_0 a0_1 a0_2 a0_3 a0_4 = some r) ∧ Aside0 (kq ≤ kj3) ∧ Aside0 (Kd.R Kd.string 9 wc w.heap.size (fun _ => True) v6 x6_13) ∧ Aside0 (wc.heap[gb272]? = some (o5 a0_0 a0_1 a0_2 a0_3 a0_4 31)) ∧ Aside0 (Below w.heap.size w wc))
   case first =>
    have H := HC14.out
    clear HC14
    by_cases c15 : t275 = true
    ·
     subst c15
     have H1 : ((pascalineref01_Text.f a0_2).bind fun t281 => (if 1 + t281.size ≤ 9223372036854775807 then (if a0_0 = 26 then ((pascalineref01_Text.f a0_2).bind fun t282 => (if x6_3.length < 8796093022208 then (pascalineref02_Fields.j1 kj3 t276 (x6_3 ++ [t282]) a0_0 a0_1 a0_2 a0_3 a0_4) else (none))) else (if x6_3.length < 8796093022208 then (pascalineref02_Fields.j1 kj3 t276 (x6_3 ++ [(⟨#[114]⟩ : ByteArray) ++ t281]) a0_0 a0_1 a0_2 a0_3 a0_4) else (none))) else (none))) = some r := by rw [if_pos rfl] at H; exact H
     clear H
     have H := H1
     clear H1
     replace H := oB H
     obtain ⟨t281, A160, H⟩ := H
     replace H : (if 1 + t281.size ≤ 9223372036854775807 then (if a0_0 = 26 then ((pascalineref01_Text.f a0_2).bind fun t282 => (if x6_3.length < 8796093022208 then (pascalineref02_Fields.j1 kj3 t276 (x6_3 ++ [t282]) a0_0 a0_1 a0_2 a0_3 a0_4) else (none))) else (if x6_3.length < 8796093022208 then (pascalineref02_Fields.j1 kj3 t276 (x6_3 ++ [(⟨#[114]⟩ : ByteArray) ++ t281]) a0_0 a0_1 a0_2 a0_3 a0_4) else (none))) else (none)) = some r := H
     have A16 := mK A160
     clear A160
     by_cases c17 : 1 + t281.size ≤ 9223372036854775807
     ·
      rw [if_pos c17] at H
      have c17b0 := eq_true c17
      have c17b1 : decide (1 + t281.size ≤ 9223372036854775807) = true := decide_eq_true c17
      try have c17b2 : (9223372036854775807 < 1 + t281.size) = False := eq_false (Nat.not_lt.2 c17)
      by_cases c18 : a0_0 = 26
      ·
       rw [if_pos c18] at H
       have c18b0 : (a0_0 == 26) = true := beq_iff_eq.mpr c18
       have c18b1 : (a0_0 != 26) = false := bR c18
       clear c18
       (first | rw [c18b0] | (simp only [i64_w, i32_w]; rw [c18b0]) | skip)
       replace H := oB H
       obtain ⟨t282, A190, H⟩ := H
       replace H : (if x6_3.length < 8796093022208 then (pascalineref02_Fields.j1 kj3 t276 (x6_3 ++ [t282]) a0_0 a0_1 a0_2 a0_3 a0_4) else (none)) = some r := H
       have A19 := mK A190
       clear A190
       by_cases c20 : x6_3.length < 8796093022208
       ·
        rw [if_pos c20] at H
        have LMc20 := mK c20
        clear c20
        obtain ⟨y283, hy283⟩ : ∃ y_ : List ByteArray, y_ = (x6_3 ++ [t282]) := ⟨_, rfl⟩
        replace H : (pascalineref02_Fields.j1 kj3 t276 y283 a0_0 a0_1 a0_2 a0_3 a0_4) = some r := by first | (rw [hy283]; with_reducible exact H) | (have H2_ := (Option.bind_some _ _).symm.trans H; rw [hy283]; with_reducible exact H2_) | (have H2_ := (Option.bind_some _ _).symm.trans H; with_reducible exact H2_) | with_reducible exact H | (rw [hy283]; exact H) | exact H
        have Ny283 := mK hy283
        clear hy283
        have H' := mK H
        clear H
        obtain ⟨hcz21_0, hcz21_1, hcz21_2, hcz21_3, hcz21_4, hfz21_0, hfz21_1, hfz21_2, hfz21_3, hfz21_4⟩ := cf5 BK272.out
        go_wp2_with (first | ((with_reducible refine gate_callee (f := 36) rfl ?_); refine goesL_ (some 28) rfl rfl Try.func36 (by kernel_rfl) rfl #[.int .i64 a0_2] rfl (by (try simp only [List.map_toArray, List.map_cons, List.map_nil]); first | done | rfl) ?_; (with_reducible refine (pascalineref01_Text.calls a0_2 t281 _ A16.out).mono ?_); rintro e w22 ⟨rfl, hb⟩; refine ⟨_, rfl, ?_⟩; have n0_ := mK (Kd.R_below (by (with_reducible repeat (first | apply Kd.R_alloc | apply Kd.R_drewN | apply Kd.R_drew)); exact HO_6.out) hb); have n1_ := mK (kB (g := gb272) (o := o5 a0_0 a0_1 a0_2 a0_3 a0_4 31) (by (with_reducible repeat (first | refine kN ?_ _ | refine kD ?_ | refine kA ?_ _)); exact BK272.out) hb); have n2_ := mK (bP (by repeat (first | (with_reducible first | exact HB.out | apply bA | apply bN | apply bD | refine bS ?_ GE272.out) | exact HB.out)) hb); clear HO_6; clear BK272; clear HB; have HO_6 := n0_; have BK272 := n1_; have HB := n2_; clear n0_ n1_ n2_; (try clear hb); (try clear hk); obtain ⟨hcz23_0, hcz23_1, hcz23_2, hcz23_3, hcz23_4, hfz23_0, hfz23_1, hfz23_2, hfz23_3, hfz23_4⟩ := cf5 BK272.out) | ((with_reducible refine gate_callee (f := 36) rfl ?_); refine goesL_ (some 35) rfl rfl Try.func36 (by kernel_rfl) rfl #[.int .i64 a0_2] rfl (by (try simp only [List.map_toArray, List.map_cons, List.map_nil]); first | done | rfl) ?_; (with_reducible refine (pascalineref01_Text.calls a0_2 t282 _ A19.out).mono ?_); rintro e w24 ⟨rfl, hb⟩; refine ⟨_, rfl, ?_⟩; have n0_ := mK (Kd.R_below (by (with_reducible repeat (first | apply Kd.R_alloc | apply Kd.R_drewN | apply Kd.R_drew)); exact HO_6.out) hb); have n1_ := mK (kB (g := gb272) (o := o5 a0_0 a0_1 a0_2 a0_3 a0_4 31) (by (with_reducible repeat (first | refine kN ?_ _ | refine kD ?_ | refine kA ?_ _)); exact BK272.out) hb); have n2_ := mK (bP (by repeat (first | (with_reducible first | exact HB.out | apply bA | apply bN | apply bD | refine bS ?_ GE272.out) | exact HB.out)) hb); clear HO_6; clear BK272; clear HB; have HO_6 := n0_; have BK272 := n1_; have HB := n2_; clear n0_ n1_ n2_; (try clear hb); (try clear hk)) | ((with_reducible refine gate_builtin (b := .append) (xs := #[.tmp 36, .tmp 38]) rfl ?_); at_builtin; refine Kd.R_append Kd.string (w0 := w) w.heap.size rfl (.tmp 36) (.tmp 38) 45 9 (.string ⟨#[]⟩) 16 rfl Try.underlying45 info9 rfl (by decide) (by omega) u6 x6_3 t282 [.string t282] (fun _ => True) (fun _ => False) rfl rfl ?aP (fun _ hk => hk.elim) ?aF ?aO ?aB ?aS ?aL ?_; (case aP => exact rfl); (case aB => exact (by repeat (first | (with_reducible first | exact HB.out | apply bA | apply bN | apply bD | refine bS ?_ GE272.out) | exact HB.out))); (case aF => exact (fun _ _ => trivial)); (case aO => exact (by (with_reducible repeat (first | apply Kd.R_alloc | apply Kd.R_drewN | apply Kd.R_drew)); exact HO_6.out)); (case aS => exact (bZ (by repeat (first | (with_reducible first | exact HB.out | apply bA | apply bN | apply bD | refine bS ?_ GE272.out) | exact HB.out)))); (case aL => have := LMc20.out; omega); intro v284 w25 ho hb hg hat; rw [← Ny283.out] at ho; have n0_ := mK (blk_grown (g := gb272) (o := o5 a0_0 a0_1 a0_2 a0_3 a0_4 31) (by (with_reducible repeat (first | refine kN ?_ _ | refine kD ?_ | refine kA ?_ _)); exact BK272.out) hg (Kd.R_ne HO_6.out BK272.out (by decide))); have n1_ := mK (hb); have n2_ := mK (ho); clear BK272; clear HB; clear HO_6; have BK272 := n0_; have HB := n1_; have HO285 := n2_; clear n0_ n1_ n2_; clear ho hb hg hat))
        go_meet
        case rel => exact ⟨_, (y283), H', ⟨by have := HJ3.out; first | omega | exact Nat.le_refl _⟩, ⟨by (with_reducible repeat (first | apply Kd.R_alloc | apply Kd.R_drewN | apply Kd.R_drew)); exact HO285.out⟩, ⟨by (with_reducible repeat (first | refine kN ?_ _ | refine kD ?_ | refine kA ?_ _)); exact BK272.out⟩, ⟨by repeat (first | (with_reducible first | exact HB.out | apply bA | apply bN | apply bD | refine bS ?_ GE272.out) | exact HB.out)⟩⟩
       ·
        rw [if_neg c20] at H
        exact absurd H (by simp)
      ·
       rw [if_neg c18] at H
       have c18b0 : (a0_0 == 26) = false := bQ c18
       have c18b1 : (a0_0 != 26) = true := bne_iff_ne.mpr c18
       (first | rw [c18b0] | (simp only [i64_w, i32_w]; rw [c18b0]) | skip)
       by_cases c26 : x6_3.length < 8796093022208
       ·
        rw [if_pos c26] at H
        have LMc26 := mK c26
        clear c26
        obtain ⟨y286, hy286⟩ : ∃ y_ : List ByteArray, y_ = (x6_3 ++ [(⟨#[114]⟩ : ByteArray) ++ t281]) := ⟨_, rfl⟩
        replace H : (pascalineref02_Fields.j1 kj3 t276 y286 a0_0 a0_1 a0_2 a0_3 a0_4) = some r := by first | (rw [hy286]; with_reducible exact H) | (have H2_ := (Option.bind_some _ _).symm.trans H; rw [hy286]; with_reducible exact H2_) | (have H2_ := (Option.bind_some _ _).symm.trans H; with_reducible exact H2_) | with_reducible exact H | (rw [hy286]; exact H) | exact H
        have Ny286 := mK hy286
        clear hy286
        have H' := mK H
        clear H
        obtain ⟨hcz27_0, hcz27_1, hcz27_2, hcz27_3, hcz27_4, hfz27_0, hfz27_1, hfz27_2, hfz27_3, hfz27_4⟩ := cf5 BK272.out
        go_wp2_with (first | ((with_reducible refine gate_callee (f := 36) rfl ?_); refine goesL_ (some 28) rfl rfl Try.func36 (by kernel_rfl) rfl #[.int .i64 a0_2] rfl (by (try simp only [List.map_toArray, List.map_cons, List.map_nil]); first | done | rfl) ?_; (with_reducible refine (pascalineref01_Text.calls a0_2 t281 _ A16.out).mono ?_); rintro e w28 ⟨rfl, hb⟩; refine ⟨_, rfl, ?_⟩; have n0_ := mK (Kd.R_below (by (with_reducible repeat (first | apply Kd.R_alloc | apply Kd.R_drewN | apply Kd.R_drew)); exact HO_6.out) hb); have n1_ := mK (kB (g := gb272) (o := o5 a0_0 a0_1 a0_2 a0_3 a0_4 31) (by (with_reducible repeat (first | refine kN ?_ _ | refine kD ?_ | refine kA ?_ _)); exact BK272.out) hb); have n2_ := mK (bP (by repeat (first | (with_reducible first | exact HB.out | apply bA | apply bN | apply bD | refine bS ?_ GE272.out) | exact HB.out)) hb); clear HO_6; clear BK272; clear HB; have HO_6 := n0_; have BK272 := n1_; have HB := n2_; clear n0_ n1_ n2_; (try clear hb); (try clear hk); obtain ⟨hcz29_0, hcz29_1, hcz29_2, hcz29_3, hcz29_4, hfz29_0, hfz29_1, hfz29_2, hfz29_3, hfz29_4⟩ := cf5 BK272.out) | ((with_reducible refine gate_builtin (b := .append) (xs := #[.tmp 36, .tmp 38]) rfl ?_); at_builtin; refine Kd.R_append Kd.string (w0 := w) w.heap.size rfl (.tmp 36) (.tmp 38) 45 9 (.string ⟨#[]⟩) 16 rfl Try.underlying45 info9 rfl (by decide) (by omega) u6 x6_3 ((⟨#[114]⟩ : ByteArray) ++ t281) [.string ((⟨#[114]⟩ : ByteArray) ++ t281)] (fun _ => True) (fun _ => False) rfl rfl ?aP (fun _ hk => hk.elim) ?aF ?aO ?aB ?aS ?aL ?_; (case aP => exact rfl); (case aB => exact (by repeat (first | (with_reducible first | exact HB.out | apply bA | apply bN | apply bD | refine bS ?_ GE272.out) | exact HB.out))); (case aF => exact (fun _ _ => trivial)); (case aO => exact (by (with_reducible repeat (first | apply Kd.R_alloc | apply Kd.R_drewN | apply Kd.R_drew)); exact HO_6.out)); (case aS => exact (bZ (by repeat (first | (with_reducible first | exact HB.out | apply bA | apply bN | apply bD | refine bS ?_ GE272.out) | exact HB.out)))); (case aL => have := LMc26.out; omega); intro v287 w30 ho hb hg hat; rw [← Ny286.out] at ho; have n0_ := mK (blk_grown (g := gb272) (o := o5 a0_0 a0_1 a0_2 a0_3 a0_4 31) (by (with_reducible repeat (first | refine kN ?_ _ | refine kD ?_ | refine kA ?_ _)); exact BK272.out) hg (Kd.R_ne HO_6.out BK272.out (by decide))); have n1_ := mK (hb); have n2_ := mK (ho); clear BK272; clear HB; clear HO_6; have BK272 := n0_; have HB := n1_; have HO288 := n2_; clear n0_ n1_ n2_; clear ho hb hg hat))
        go_meet
        case rel => exact ⟨_, (y286), H', ⟨by have := HJ3.out; first | omega | exact Nat.le_refl _⟩, ⟨by (with_reducible repeat (first | apply Kd.R_alloc | apply Kd.R_drewN | apply Kd.R_drew)); exact HO288.out⟩, ⟨by (with_reducible repeat (first | refine kN ?_ _ | refine kD ?_ | refine kA ?_ _)); exact BK272.out⟩, ⟨by repeat (first | (with_reducible first | exact HB.out | apply bA | apply bN | apply bD | refine bS ?_ GE272.out) | exact HB.out)⟩⟩
       ·
        rw [if_neg c26] at H
        exact absurd H (by simp)
     ·
      rw [if_neg c17] at H
      exact absurd H (by simp)
    ·
     replace c15 := Bool.eq_false_iff.mpr c15
     subst c15
     have H1 : (pascalineref02_Fields.j1 kj3 t276 x6_3 a0_0 a0_1 a0_2 a0_3 a0_4) = some r := by rw [if_neg (show ¬ (false = true) by decide)] at H; exact H
     clear H
     have H := H1
     clear H1
     have H' := mK H
     clear H
     go_wp2
     go_meet
     case rel => exact ⟨_, (x6_3), H', ⟨by have := HJ3.out; first | omega | exact Nat.le_refl _⟩, ⟨by (with_reducible repeat (first | apply Kd.R_alloc | apply Kd.R_drewN | apply Kd.R_drew)); exact HO_6.out⟩, ⟨by (with_reducible repeat (first | refine kN ?_ _ | refine kD ?_ | refine kA ?_ _)); exact BK272.out⟩, ⟨by repeat (first | (with_reducible first | exact HB.out | apply bA | apply bN | apply bD | refine bS ?_ GE272.out) | exact HB.out)⟩⟩
   case rest =>
    clear HC14
    (try clear hcz6_0); (try clear hcz6_1); (try clear hcz6_2); (try clear hcz6_3); (try clear hcz6_4); (try clear hfz6_0); (try clear hfz6_1); (try clear hfz6_2); (try clear hfz6_3); (try clear hfz6_4)
    obtain ⟨kq, x6_13, HA, HJ13, HO_6, BK272, HB⟩ := hcut
    cases kq with
    | zero => exact absurd HA.out (by simp [pascalineref02_Fields.j1])
    | succ kj13 =>
     have H := HA.out
     clear HA
     simp only [pascalineref02_Fields.j1] at H
     have HC31 := mK H
     clear H
     go_upto_if 40 with (fail)
     go_cut [6] (fun v6 wc => ∃ (kq : Nat) (x6_30 : List ByteArray), Aside0 (pascalineref02_Fields.j2 kq x6_30 a0_0 a0_1 a0_2 a0_3 a0_4 = some r) ∧ Aside0 (kq ≤ kj13) ∧ Aside0 (Kd.R Kd.string 9 wc w.heap.size (fun _ => True) v6 x6_30) ∧ Aside0 (wc.heap[gb272]? = some (o5 a0_0 a0_1 a0_2 a0_3 a0_4 31)) ∧ Aside0 (Below w.heap.size w wc))
     case first =>
      have H := HC31.out
      clear HC31
      by_cases c32 : t276 = true
      ·
       subst c32
       have H1 : ((pascalineref01_Text.f a0_3).bind fun t289 => (if 1 + t289.size ≤ 9223372036854775807 then (if x6_13.length < 8796093022208 then (pascalineref02_Fields.j2 kj13 (x6_13 ++ [(⟨#[114]⟩ : ByteArray) ++ t289]) a0_0 a0_1 a0_2 a0_3 a0_4) else (none)) else (none))) = some r := by rw [if_pos rfl] at H; exact H
       clear H
       have H := H1
       clear H1
       replace H := oB H
       obtain ⟨t289, A330, H⟩ := H
       replace H : (if 1 + t289.size ≤ 9223372036854775807 then (if x6_13.length < 8796093022208 then (pascalineref02_Fields.j2 kj13 (x6_13 ++ [(⟨#[114]⟩ : ByteArray) ++ t289]) a0_0 a0_1 a0_2 a0_3 a0_4) else (none)) else (none)) = some r := H
       have A33 := mK A330
       clear A330
       by_cases c34 : 1 + t289.size ≤ 9223372036854775807
       ·
        rw [if_pos c34] at H
        have c34b0 := eq_true c34
        have c34b1 : decide (1 + t289.size ≤ 9223372036854775807) = true := decide_eq_true c34
        try have c34b2 : (9223372036854775807 < 1 + t289.size) = False := eq_false (Nat.not_lt.2 c34)
        by_cases c35 : x6_13.length < 8796093022208
        ·
         rw [if_pos c35] at H
         have LMc35 := mK c35
         clear c35
         obtain ⟨y290, hy290⟩ : ∃ y_ : List ByteArray, y_ = (x6_13 ++ [(⟨#[114]⟩ : ByteArray) ++ t289]) := ⟨_, rfl⟩
         replace H : (pascalineref02_Fields.j2 kj13 y290 a0_0 a0_1 a0_2 a0_3 a0_4) = some r := by first | (rw [hy290]; with_reducible exact H) | (have H2_ := (Option.bind_some _ _).symm.trans H; rw [hy290]; with_reducible exact H2_) | (have H2_ := (Option.bind_some _ _).symm.trans H; with_reducible exact H2_) | with_reducible exact H | (rw [hy290]; exact H) | exact H
         have Ny290 := mK hy290
         clear hy290
         have H' := mK H
         clear H
         obtain ⟨hcz36_0, hcz36_1, hcz36_2, hcz36_3, hcz36_4, hfz36_0, hfz36_1, hfz36_2, hfz36_3, hfz36_4⟩ := cf5 BK272.out
         go_wp2_with (first | ((with_reducible refine gate_callee (f := 36) rfl ?_); refine goesL_ (some 44) rfl rfl Try.func36 (by kernel_rfl) rfl #[.int .i64 a0_3] rfl (by (try simp only [List.map_toArray, List.map_cons, List.map_nil]); first | done | rfl) ?_; (with_reducible refine (pascalineref01_Text.calls a0_3 t289 _ A33.out).mono ?_); rintro e w37 ⟨rfl, hb⟩; refine ⟨_, rfl, ?_⟩; have n0_ := mK (Kd.R_below (by (with_reducible repeat (first | apply Kd.R_alloc | apply Kd.R_drewN | apply Kd.R_drew)); exact HO_6.out) hb); have n1_ := mK (kB (g := gb272) (o := o5 a0_0 a0_1 a0_2 a0_3 a0_4 31) (by (with_reducible repeat (first | refine kN ?_ _ | refine kD ?_ | refine kA ?_ _)); exact BK272.out) hb); have n2_ := mK (bP (by repeat (first | (with_reducible first | exact HB.out | apply bA | apply bN | apply bD | refine bS ?_ GE272.out) | exact HB.out)) hb); clear HO_6; clear BK272; clear HB; have HO_6 := n0_; have BK272 := n1_; have HB := n2_; clear n0_ n1_ n2_; (try clear hb); (try clear hk)) | ((with_reducible refine gate_builtin (b := .append) (xs := #[.tmp 41, .tmp 46]) rfl ?_); at_builtin; refine Kd.R_append Kd.string (w0 := w) w.heap.size rfl (.tmp 41) (.tmp 46) 45 9 (.string ⟨#[]⟩) 16 rfl Try.underlying45 info9 rfl (by decide) (by omega) u6 x6_13 ((⟨#[114]⟩ : ByteArray) ++ t289) [.string ((⟨#[114]⟩ : ByteArray) ++ t289)] (fun _ => True) (fun _ => False) rfl rfl ?aP (fun _ hk => hk.elim) ?aF ?aO ?aB ?aS ?aL ?_; (case aP => exact rfl); (case aB => exact (by repeat (first | (with_reducible first | exact HB.out | apply bA | apply bN | apply bD | refine bS ?_ GE272.out) | exact HB.out))); (case aF => exact (fun _ _ => trivial)); (case aO => exact (by (with_reducible repeat (first | apply Kd.R_alloc | apply Kd.R_drewN | apply Kd.R_drew)); exact HO_6.out)); (case aS => exact (bZ (by repeat (first | (with_reducible first | exact HB.out | apply bA | apply bN | apply bD | refine bS ?_ GE272.out) | exact HB.out)))); (case aL => have := LMc35.out; omega); intro v291 w38 ho hb hg hat; rw [← Ny290.out] at ho; have n0_ := mK (blk_grown (g := gb272) (o := o5 a0_0 a0_1 a0_2 a0_3 a0_4 31) (by (with_reducible repeat (first | refine kN ?_ _ | refine kD ?_ | refine kA ?_ _)); exact BK272.out) hg (Kd.R_ne HO_6.out BK272.out (by decide))); have n1_ := mK (hb); have n2_ := mK (ho); clear BK272; clear HB; clear HO_6; have BK272 := n0_; have HB := n1_; have HO292 := n2_; clear n0_ n1_ n2_; clear ho hb hg hat))
         go_meet
         case rel => exact ⟨_, (y290), H', ⟨by have := HJ3.out; have := HJ13.out; first | omega | exact Nat.le_refl _⟩, ⟨by (with_reducible repeat (first | apply Kd.R_alloc | apply Kd.R_drewN | apply Kd.R_drew)); exact HO292.out⟩, ⟨by (with_reducible repeat (first | refine kN ?_ _ | refine kD ?_ | refine kA ?_ _)); exact BK272.out⟩, ⟨by repeat (first | (with_reducible first | exact HB.out | apply bA | apply bN | apply bD | refine bS ?_ GE272.out) | exact HB.out)⟩⟩
        ·
         rw [if_neg c35] at H
         exact absurd H (by simp)
       ·
        rw [if_neg c34] at H
        exact absurd H (by simp)
      ·
       replace c32 := Bool.eq_false_iff.mpr c32
       subst c32
       have H1 : (pascalineref02_Fields.j2 kj13 x6_13 a0_0 a0_1 a0_2 a0_3 a0_4) = some r := by rw [if_neg (show ¬ (false = true) by decide)] at H; exact H
       clear H
       have H := H1
       clear H1
       have H' := mK H
       clear H
       go_wp2
       go_meet
       case rel => exact ⟨_, (x6_13), H', ⟨by have := HJ3.out; have := HJ13.out; first | omega | exact Nat.le_refl _⟩, ⟨by (with_reducible repeat (first | apply Kd.R_alloc | apply Kd.R_drewN | apply Kd.R_drew)); exact HO_6.out⟩, ⟨by (with_reducible repeat (first | refine kN ?_ _ | refine kD ?_ | refine kA ?_ _)); exact BK272.out⟩, ⟨by repeat (first | (with_reducible first | exact HB.out | apply bA | apply bN | apply bD | refine bS ?_ GE272.out) | exact HB.out)⟩⟩
     case rest =>
      clear HC31
      (try clear hcz6_0); (try clear hcz6_1); (try clear hcz6_2); (try clear hcz6_3); (try clear hcz6_4); (try clear hfz6_0); (try clear hfz6_1); (try clear hfz6_2); (try clear hfz6_3); (try clear hfz6_4)
      obtain ⟨kq, x6_30, HA, HJ30, HO_6, BK272, HB⟩ := hcut
      cases kq with
      | zero => exact absurd HA.out (by simp [pascalineref02_Fields.j2])
      | succ kj30 =>
       have H := HA.out
       clear HA
       simp only [pascalineref02_Fields.j2] at H
       replace H := oB H
       obtain ⟨t293, A390, H⟩ := H
       replace H : (if t293 = 0 then (some x6_30) else (if t293 = 5 then (some x6_30) else (if t293 = 6 then (some x6_30) else ((pascalineref01_Text.f a0_4).bind fun t294 => (if x6_30.length < 8796093022208 then (some (x6_30 ++ [t294])) else (none)))))) = some r := H
       have A39 := mK A390
       clear A390
       by_cases c40 : t293 = 0
       ·
        rw [if_pos c40] at H
        have c40b0 : (t293 == 0) = true := beq_iff_eq.mpr c40
        have c40b1 : (t293 != 0) = false := bR c40
        clear c40
        obtain rfl := Option.some.inj H
        obtain ⟨hcz41_0, hcz41_1, hcz41_2, hcz41_3, hcz41_4, hfz41_0, hfz41_1, hfz41_2, hfz41_3, hfz41_4⟩ := cf5 BK272.out
        go_wp2_with (first | ((with_reducible refine gate_callee (f := 14) rfl ?_); refine goesL_ (some 50) rfl rfl Try.func14 (by kernel_rfl) rfl #[.int .i64 a0_0] rfl (by (try simp only [List.map_toArray, List.map_cons, List.map_nil]); first | done | rfl) ?_; (with_reducible refine (pascalineref02_Shape.calls kj30 a0_0 t293 _ A39.out).mono ?_); rintro e w' ⟨rfl, ⟨nd, rfl⟩⟩; refine ⟨_, rfl, ?_⟩))
        go_ret
        exact ⟨_, by first | rfl | (simp [errW_none, errW_some] <;> rfl) | (simp [*, errW_none, errW_some] <;> rfl), by (with_reducible repeat (first | apply Kd.R_alloc | apply Kd.R_drewN | apply Kd.R_drew)); exact HO_6.out, by repeat (first | (with_reducible first | exact HB.out | apply bA | apply bN | apply bD | refine bS ?_ GE272.out) | exact HB.out)⟩
       ·
        rw [if_neg c40] at H
        have c40b0 : (t293 == 0) = false := bQ c40
        have c40b1 : (t293 != 0) = true := bne_iff_ne.mpr c40
        by_cases c42 : t293 = 5
        ·
         rw [if_pos c42] at H
         have c42b0 : (t293 == 5) = true := beq_iff_eq.mpr c42
         have c42b1 : (t293 != 5) = false := bR c42
         clear c42
         obtain rfl := Option.some.inj H
         obtain ⟨hcz43_0, hcz43_1, hcz43_2, hcz43_3, hcz43_4, hfz43_0, hfz43_1, hfz43_2, hfz43_3, hfz43_4⟩ := cf5 BK272.out
         go_wp2_with (first | ((with_reducible refine gate_callee (f := 14) rfl ?_); refine goesL_ (some 50) rfl rfl Try.func14 (by kernel_rfl) rfl #[.int .i64 a0_0] rfl (by (try simp only [List.map_toArray, List.map_cons, List.map_nil]); first | done | rfl) ?_; (with_reducible refine (pascalineref02_Shape.calls kj30 a0_0 t293 _ A39.out).mono ?_); rintro e w' ⟨rfl, ⟨nd, rfl⟩⟩; refine ⟨_, rfl, ?_⟩))
         go_ret
         exact ⟨_, by first | rfl | (simp [errW_none, errW_some] <;> rfl) | (simp [*, errW_none, errW_some] <;> rfl), by (with_reducible repeat (first | apply Kd.R_alloc | apply Kd.R_drewN | apply Kd.R_drew)); exact HO_6.out, by repeat (first | (with_reducible first | exact HB.out | apply bA | apply bN | apply bD | refine bS ?_ GE272.out) | exact HB.out)⟩
        ·
         rw [if_neg c42] at H
         have c42b0 : (t293 == 5) = false := bQ c42
         have c42b1 : (t293 != 5) = true := bne_iff_ne.mpr c42
         by_cases c44 : t293 = 6
         ·
          rw [if_pos c44] at H
          have c44b0 : (t293 == 6) = true := beq_iff_eq.mpr c44
          have c44b1 : (t293 != 6) = false := bR c44
          clear c44
          obtain rfl := Option.some.inj H
          obtain ⟨hcz45_0, hcz45_1, hcz45_2, hcz45_3, hcz45_4, hfz45_0, hfz45_1, hfz45_2, hfz45_3, hfz45_4⟩ := cf5 BK272.out
          go_wp2_with (first | ((with_reducible refine gate_callee (f := 14) rfl ?_); refine goesL_ (some 50) rfl rfl Try.func14 (by kernel_rfl) rfl #[.int .i64 a0_0] rfl (by (try simp only [List.map_toArray, List.map_cons, List.map_nil]); first | done | rfl) ?_; (with_reducible refine (pascalineref02_Shape.calls kj30 a0_0 t293 _ A39.out).mono ?_); rintro e w' ⟨rfl, ⟨nd, rfl⟩⟩; refine ⟨_, rfl, ?_⟩))
          go_ret
          exact ⟨_, by first | rfl | (simp [errW_none, errW_some] <;> rfl) | (simp [*, errW_none, errW_some] <;> rfl), by (with_reducible repeat (first | apply Kd.R_alloc | apply Kd.R_drewN | apply Kd.R_drew)); exact HO_6.out, by repeat (first | (with_reducible first | exact HB.out | apply bA | apply bN | apply bD | refine bS ?_ GE272.out) | exact HB.out)⟩
         ·
          rw [if_neg c44] at H
          have c44b0 : (t293 == 6) = false := bQ c44
          have c44b1 : (t293 != 6) = true := bne_iff_ne.mpr c44
          replace H := oB H
          obtain ⟨t294, A460, H⟩ := H
          replace H : (if x6_30.length < 8796093022208 then (some (x6_30 ++ [t294])) else (none)) = some r := H
          have A46 := mK A460
          clear A460
          by_cases c47 : x6_30.length < 8796093022208
          ·
           rw [if_pos c47] at H
           have LMc47 := mK c47
           clear c47
           obtain ⟨y295, hy295⟩ : ∃ y_ : List ByteArray, y_ = (x6_30 ++ [t294]) := ⟨_, rfl⟩
           replace H : (some y295) = some r := by first | (rw [hy295]; with_reducible exact H) | (have H2_ := (Option.bind_some _ _).symm.trans H; rw [hy295]; with_reducible exact H2_) | (have H2_ := (Option.bind_some _ _).symm.trans H; with_reducible exact H2_) | with_reducible exact H | (rw [hy295]; exact H) | exact H
           have Ny295 := mK hy295
           clear hy295
           obtain rfl := Option.some.inj H
           obtain ⟨hcz48_0, hcz48_1, hcz48_2, hcz48_3, hcz48_4, hfz48_0, hfz48_1, hfz48_2, hfz48_3, hfz48_4⟩ := cf5 BK272.out
           go_wp2_with (first | ((with_reducible refine gate_callee (f := 14) rfl ?_); refine goesL_ (some 50) rfl rfl Try.func14 (by kernel_rfl) rfl #[.int .i64 a0_0] rfl (by (try simp only [List.map_toArray, List.map_cons, List.map_nil]); first | done | rfl) ?_; (with_reducible refine (pascalineref02_Shape.calls kj30 a0_0 t293 _ A39.out).mono ?_); rintro e w' ⟨rfl, ⟨nd, rfl⟩⟩; refine ⟨_, rfl, ?_⟩) | ((with_reducible refine gate_callee (f := 36) rfl ?_); refine goesL_ (some 64) rfl rfl Try.func36 (by kernel_rfl) rfl #[.int .i64 a0_4] rfl (by (try simp only [List.map_toArray, List.map_cons, List.map_nil]); first | done | rfl) ?_; (with_reducible refine (pascalineref01_Text.calls a0_4 t294 _ A46.out).mono ?_); rintro e w49 ⟨rfl, hb⟩; refine ⟨_, rfl, ?_⟩; have n0_ := mK (Kd.R_below (by (with_reducible repeat (first | apply Kd.R_alloc | apply Kd.R_drewN | apply Kd.R_drew)); exact HO_6.out) hb); have n1_ := mK (kB (g := gb272) (o := o5 a0_0 a0_1 a0_2 a0_3 a0_4 31) (by (with_reducible repeat (first | refine kN ?_ _ | refine kD ?_ | refine kA ?_ _)); exact BK272.out) hb); have n2_ := mK (bP (by repeat (first | (with_reducible first | exact HB.out | apply bA | apply bN | apply bD | refine bS ?_ GE272.out) | exact HB.out)) hb); clear HO_6; clear BK272; clear HB; have HO_6 := n0_; have BK272 := n1_; have HB := n2_; clear n0_ n1_ n2_; (try clear hb); (try clear hk)) | ((with_reducible refine gate_builtin (b := .append) (xs := #[.tmp 61, .tmp 65]) rfl ?_); at_builtin; refine Kd.R_append Kd.string (w0 := w) w.heap.size rfl (.tmp 61) (.tmp 65) 45 9 (.string ⟨#[]⟩) 16 rfl Try.underlying45 info9 rfl (by decide) (by omega) u6 x6_30 t294 [.string t294] (fun _ => True) (fun _ => False) rfl rfl ?aP (fun _ hk => hk.elim) ?aF ?aO ?aB ?aS ?aL ?_; (case aP => exact rfl); (case aB => exact (by repeat (first | (with_reducible first | exact HB.out | apply bA | apply bN | apply bD | refine bS ?_ GE272.out) | exact HB.out))); (case aF => exact (fun _ _ => trivial)); (case aO => exact (by (with_reducible repeat (first | apply Kd.R_alloc | apply Kd.R_drewN | apply Kd.R_drew)); exact HO_6.out)); (case aS => exact (bZ (by repeat (first | (with_reducible first | exact HB.out | apply bA | apply bN | apply bD | refine bS ?_ GE272.out) | exact HB.out)))); (case aL => have := LMc47.out; omega); intro v296 w50 ho hb hg hat; rw [← Ny295.out] at ho; have n0_ := mK (blk_grown (g := gb272) (o := o5 a0_0 a0_1 a0_2 a0_3 a0_4 31) (by (with_reducible repeat (first | refine kN ?_ _ | refine kD ?_ | refine kA ?_ _)); exact BK272.out) hg (Kd.R_ne HO_6.out BK272.out (by decide))); have n1_ := mK (hb); have n2_ := mK (ho); clear BK272; clear HB; clear HO_6; have BK272 := n0_; have HB := n1_; have HO297 := n2_; clear n0_ n1_ n2_; clear ho hb hg hat))
           go_ret
           exact ⟨_, by first | rfl | (simp [errW_none, errW_some] <;> rfl) | (simp [*, errW_none, errW_some] <;> rfl), by (with_reducible repeat (first | apply Kd.R_alloc | apply Kd.R_drewN | apply Kd.R_drew)); exact HO297.out, by repeat (first | (with_reducible first | exact HB.out | apply bA | apply bN | apply bD | refine bS ?_ GE272.out) | exact HB.out)⟩
          ·
           rw [if_neg c47] at H
           exact absurd H (by simp)

end Go.Proofs.Ytmajngcgejkghaa.P

namespace Go.Proofs.Ytmajngcgejkghaa.P
open Go.RowKit Go.Proofs.YtmajngcgejkghaaW.PrintWords Go.Proofs.YtmajngcgejkghaaW.PrintLast Go.Proofs.YtmajngcgejkghaaW.PrintMore
attribute [local go_sem] max2_int min2_int max_two min_two max_three min_three max_four min_four   -- for this text's walks alone
set_option linter.unusedVariables false
set_option linter.unusedSimpArgs false

/-! ### pascalineref02_Text: function 21 -/
def pascalineref02_Text.l0 : Nat → ByteArray → List ByteArray → Int → Option (ByteArray × Int)
 | 0, _, _, _ => none
 | k + 1, x5, x6, x7 => if x7 < (x6.length : Int) then (if x7 > 0 then (if x5.size + 1 ≤ 9223372036854775807 then (if (x5 ++ (⟨#[44]⟩ : ByteArray)).size + 1 ≤ 9223372036854775807 then (if 0 ≤ x7 then (if ((x5 ++ (⟨#[44]⟩ : ByteArray)) ++ (⟨#[32]⟩ : ByteArray)).size + (rdOf ByteArray.empty x6 x7).size ≤ 9223372036854775807 then (pascalineref02_Text.l0 k (((x5 ++ (⟨#[44]⟩ : ByteArray)) ++ (⟨#[32]⟩ : ByteArray)) ++ (rdOf ByteArray.empty x6 x7)) x6 (wrap64 (x7 + 1))) else (none)) else (none)) else (none)) else (none)) else (if x5.size + 1 ≤ 9223372036854775807 then (if 0 ≤ x7 then (if (x5 ++ (⟨#[32]⟩ : ByteArray)).size + (rdOf ByteArray.empty x6 x7).size ≤ 9223372036854775807 then (pascalineref02_Text.l0 k ((x5 ++ (⟨#[32]⟩ : ByteArray)) ++ (rdOf ByteArray.empty x6 x7)) x6 (wrap64 (x7 + 1))) else (none)) else (none)) else (none))) else (some (x5, 0))
def pascalineref02_Text.f (k : Nat) (a0_0 : Int) (a0_1 : Int) (a0_2 : Int) (a0_3 : Int) (a0_4 : Int) : Option (ByteArray × Int) := (pascalineref02_Check.f k a0_0 a0_1 a0_2 a0_3 a0_4).bind fun t299 => (if t299 = 0 then ((pascalineref02_Name.f a0_0).bind fun t300 => ((pascalineref02_Fields.f k a0_0 a0_1 a0_2 a0_3 a0_4).bind fun t301 => (pascalineref02_Text.l0 k t300 t301 0))) else (some ((⟨#[]⟩ : ByteArray), t299)))
theorem pascalineref02_Text.mono_l : ∀ k, (∀ y0 y1 y2, LeO (pascalineref02_Text.l0 k y0 y1 y2) (pascalineref02_Text.l0 (k + 1) y0 y1 y2))
 | 0 => fun _ _ _ r h => by simp [pascalineref02_Text.l0] at h
 | k + 1 => by
  have ih0 := pascalineref02_Text.mono_l k
  ·
   intro y0 y1 y2
   unfold pascalineref02_Text.l0
   repeat' first
   | (with_reducible exact ih0 _ _ _)
   | (with_reducible exact pascalineref02_Check.mono _ _ _ _ _ _)
   | (with_reducible exact pascalineref02_Fields.mono _ _ _ _ _ _)
   | (with_reducible exact LeO.refl _)
   | (with_reducible exact LeO.none _)
   | (with_reducible refine LeO.ite ?_ ?_)
   | (with_reducible refine LeO.bind ?_ (fun _ => ?_))
   | exact LeO.none _
   | refine LeO.ite ?_ ?_
   | refine LeO.bind ?_ (fun _ => ?_)
theorem pascalineref02_Text.mono : ∀ a0 a1 a2 a3 a4 k, LeO (pascalineref02_Text.f k a0 a1 a2 a3 a4) (pascalineref02_Text.f (k + 1) a0 a1 a2 a3 a4) := by
 intro a0 a1 a2 a3 a4 k
 have ih0 := pascalineref02_Text.mono_l k
 unfold pascalineref02_Text.f
 repeat' first
  | (with_reducible exact ih0 _ _ _)
  | (with_reducible exact pascalineref02_Check.mono _ _ _ _ _ _)
  | (with_reducible exact pascalineref02_Fields.mono _ _ _ _ _ _)
  | (with_reducible exact LeO.refl _)
  | (with_reducible exact LeO.none _)
  | (with_reducible refine LeO.ite ?_ ?_)
  | (with_reducible refine LeO.bind ?_ (fun _ => ?_))
  | exact LeO.none _
  | refine LeO.ite ?_ ?_
  | refine LeO.bind ?_ (fun _ => ?_)
set_option maxHeartbeats 8000000 in
set_option maxRecDepth 100000 in
theorem pascalineref02_Text.calls (k : Nat) (a0_0 : Int) (a0_1 : Int) (a0_2 : Int) (a0_3 : Int) (a0_4 : Int) (r1 : ByteArray) (r2 : Int) (w : World) (h : pascalineref02_Text.f k a0_0 a0_1 a0_2 a0_3 a0_4 = some (r1, r2)) :
 Calls Try.prog 21 #[.agg #[.int .i64 a0_0, .int .i64 a0_1, .int .i64 a0_2, .int .i64 a0_3, .int .i64 a0_4]] w fun e w' => e = .returned (.tuple #[.string r1, .int .i64 r2]) ∧ Below w.heap.size w w' := by
 have hu31 := Try.underlying31
 have HB := mK (Below.refl w.heap.size w)
 have H : ((pascalineref02_Check.f k a0_0 a0_1 a0_2 a0_3 a0_4).bind fun t299 => (if t299 = 0 then ((pascalineref02_Name.f a0_0).bind fun t300 => ((pascalineref02_Fields.f k a0_0 a0_1 a0_2 a0_3 a0_4).bind fun t301 => (pascalineref02_Text.l0 k t300 t301 0))) else (some ((⟨#[]⟩ : ByteArray), t299)))) = some (r1, r2) := h
 clear h
 replace H := oB H
 obtain ⟨t299, A20, H⟩ := H
 replace H : (if t299 = 0 then ((pascalineref02_Name.f a0_0).bind fun t300 => ((pascalineref02_Fields.f k a0_0 a0_1 a0_2 a0_3 a0_4).bind fun t301 => (pascalineref02_Text.l0 k t300 t301 0))) else (some ((⟨#[]⟩ : ByteArray), t299))) = some (r1, r2) := H
 have A2 := mK A20
 clear A20
 by_cases c3 : t299 = 0
 ·
  rw [if_pos c3] at H
  have c3b0 : (t299 == 0) = true := beq_iff_eq.mpr c3
  have c3b1 : (t299 != 0) = false := bR c3
  clear c3
  replace H := oB H
  obtain ⟨t300, A40, H⟩ := H
  replace H : ((pascalineref02_Fields.f k a0_0 a0_1 a0_2 a0_3 a0_4).bind fun t301 => (pascalineref02_Text.l0 k t300 t301 0)) = some (r1, r2) := H
  have A4 := mK A40
  clear A40
  replace H := oB H
  obtain ⟨t301, A50, H⟩ := H
  replace H : (pascalineref02_Text.l0 k t300 t301 0) = some (r1, r2) := H
  have A5 := mK A50
  clear A50
  have H' := mK H
  clear H
  go_enter Try.func21, Try.ntmps21
  go_wp2_with (first | ((with_reducible refine gate_dst (N := 1) rfl ?_); refine box_event ?hg (N := 1) ?hd (cs := #[.int .i64 a0_0, .int .i64 a0_1, .int .i64 a0_2, .int .i64 a0_3, .int .i64 a0_4]) (t := 31) ?hr ?_; (case hd => rfl); (case hg => rfl); (case hr => first | (go_simp; done) | (go_simp; rfl)); intro gb298 hg w6 hbox hb; have n0_ := mK (bP (by repeat (first | (with_reducible first | exact HB.out | apply bA | apply bN | apply bD) | exact HB.out)) hb); have n1_ := mK (hbox); have n2_ := mK ((by rw [hg]; exact (bZ (by repeat (first | (with_reducible first | exact HB.out | apply bA | apply bN | apply bD) | exact HB.out))) : w.heap.size ≤ gb298)); have n3_ := mK ((by rw [hg]; exact (bZ (by repeat (first | (with_reducible first | exact HB.out | apply bA | apply bN | apply bD) | exact HB.out))) : w.heap.size ≤ gb298)); clear HB; have HB := n0_; have BK298 := n1_; have GW298 := n2_; have GE298 := n3_; clear n0_ n1_ n2_ n3_; clear hb hbox hg; obtain ⟨hcz7_0, hcz7_1, hcz7_2, hcz7_3, hcz7_4, hfz7_0, hfz7_1, hfz7_2, hfz7_3, hfz7_4⟩ := cf5 BK298.out) | ((with_reducible refine gate_callee (f := 25) rfl ?_); refine goesL_ (some 9) rfl rfl Try.func25 (by kernel_rfl) rfl #[.agg #[.int .i64 a0_0, .int .i64 a0_1, .int .i64 a0_2, .int .i64 a0_3, .int .i64 a0_4]] rfl (by (try simp only [List.map_toArray, List.map_cons, List.map_nil]); first | done | rfl) ?_; (with_reducible refine (pascalineref02_Check.calls k a0_0 a0_1 a0_2 a0_3 a0_4 t299 _ A2.out).mono ?_); rintro e w8 ⟨rfl, hb⟩; refine ⟨_, rfl, ?_⟩; have n0_ := mK (kB (g := gb298) (o := o5 a0_0 a0_1 a0_2 a0_3 a0_4 31) (by (with_reducible repeat (first | refine kN ?_ _ | refine kD ?_ | refine kA ?_ _)); exact BK298.out) hb); have n1_ := mK (bP (by repeat (first | (with_reducible first | exact HB.out | apply bA | apply bN | apply bD | refine bS ?_ GE298.out) | exact HB.out)) hb); clear BK298; clear HB; have BK298 := n0_; have HB := n1_; clear n0_ n1_; (try clear hb); obtain ⟨hcz9_0, hcz9_1, hcz9_2, hcz9_3, hcz9_4, hfz9_0, hfz9_1, hfz9_2, hfz9_3, hfz9_4⟩ := cf5 BK298.out) | ((with_reducible refine gate_callee (f := 16) rfl ?_); refine goesL_ (some 15) rfl rfl Try.func16 (by kernel_rfl) rfl #[.int .i64 a0_0] rfl (by (try simp only [List.map_toArray, List.map_cons, List.map_nil]); first | done | rfl) ?_; (with_reducible refine (pascalineref02_Name.calls a0_0 t300 _ A4.out).mono ?_); rintro e w10 ⟨rfl, hb⟩; refine ⟨_, rfl, ?_⟩; have n0_ := mK (kB (g := gb298) (o := o5 a0_0 a0_1 a0_2 a0_3 a0_4 31) (by (with_reducible repeat (first | refine kN ?_ _ | refine kD ?_ | refine kA ?_ _)); exact BK298.out) hb); have n1_ := mK (bP (by repeat (first | (with_reducible first | exact HB.out | apply bA | apply bN | apply bD | refine bS ?_ GE298.out) | exact HB.out)) hb); clear BK298; clear HB; have BK298 := n0_; have HB := n1_; clear n0_ n1_; (try clear hb); obtain ⟨hcz11_0, hcz11_1, hcz11_2, hcz11_3, hcz11_4, hfz11_0, hfz11_1, hfz11_2, hfz11_3, hfz11_4⟩ := cf5 BK298.out) | ((with_reducible refine gate_callee (f := 24) rfl ?_); refine goesL_ (some 17) rfl rfl Try.func24 (by kernel_rfl) rfl #[.agg #[.int .i64 a0_0, .int .i64 a0_1, .int .i64 a0_2, .int .i64 a0_3, .int .i64 a0_4]] rfl (by (try simp only [List.map_toArray, List.map_cons, List.map_nil]); first | done | rfl) ?_; (with_reducible refine (pascalineref02_Fields.calls k a0_0 a0_1 a0_2 a0_3 a0_4 t301 _ A5.out).mono ?_); rintro e w12 ⟨v302, rfl, ho0, hb⟩; refine ⟨_, rfl, ?_⟩; have n0_ := mK (Kd.R_lower ho0 (bZ (by repeat (first | (with_reducible first | exact HB.out | apply bA | apply bN | apply bD | refine bS ?_ GE298.out) | exact HB.out)))); have n1_ := mK (kB (g := gb298) (o := o5 a0_0 a0_1 a0_2 a0_3 a0_4 31) (by (with_reducible repeat (first | refine kN ?_ _ | refine kD ?_ | refine kA ?_ _)); exact BK298.out) hb); have n2_ := mK (bP (by repeat (first | (with_reducible first | exact HB.out | apply bA | apply bN | apply bD | refine bS ?_ GE298.out) | exact HB.out)) hb); clear BK298; clear HB; have HO303 := n0_; have BK298 := n1_; have HB := n2_; clear n0_ n1_ n2_; (try clear hb); (try clear ho0)))
  go_loopg [5, 7] k (fun kq v5 v7 w' => ∃ (x5_1 : ByteArray) (x7_1 : Int), v5 = .string x5_1 ∧ v7 = .int .i64 x7_1 ∧ Aside0 (pascalineref02_Text.l0 kq x5_1 t301 x7_1 = some (r1, r2)) ∧ Aside0 (kq ≤ k) ∧ Aside0 (Kd.R Kd.string 9 w' w.heap.size (fun _ => True) v302 t301) ∧ Aside0 (w'.heap[gb298]? = some (o5 a0_0 a0_1 a0_2 a0_3 a0_4 31)) ∧ Aside0 (Below w.heap.size w w'))
  case atStart => exact ⟨(t300), (0), (by first | rfl | (simp; done) | (simp [*]; done)), (by first | rfl | (simp; done) | (simp [*]; done)), H', ⟨Nat.le_refl _⟩, ⟨by (with_reducible repeat (first | apply Kd.R_alloc | apply Kd.R_drewN | apply Kd.R_drew)); exact HO303.out⟩, ⟨by (with_reducible repeat (first | refine kN ?_ _ | refine kD ?_ | refine kA ?_ _)); exact BK298.out⟩, ⟨by repeat (first | (with_reducible first | exact HB.out | apply bA | apply bN | apply bD | refine bS ?_ GE298.out) | exact HB.out)⟩⟩
  case round =>
   clear H'
   (try clear c3); (try clear c3b0); (try clear c3b1); (try clear hcz11_0); (try clear hcz11_1); (try clear hcz11_2); (try clear hcz11_3); (try clear hcz11_4); (try clear hcz7_0); (try clear hcz7_1); (try clear hcz7_2); (try clear hcz7_3); (try clear hcz7_4); (try clear hcz9_0); (try clear hcz9_1); (try clear hcz9_2); (try clear hcz9_3); (try clear hcz9_4); (try clear hfz11_0); (try clear hfz11_1); (try clear hfz11_2); (try clear hfz11_3); (try clear hfz11_4); (try clear hfz7_0); (try clear hfz7_1); (try clear hfz7_2); (try clear hfz7_3); (try clear hfz7_4); (try clear hfz9_0); (try clear hfz9_1); (try clear hfz9_2); (try clear hfz9_3); (try clear hfz9_4)
   obtain ⟨x5_1, x7_1, rfl, rfl, HA, HK1, HO_6, BK298, HB⟩ := hrel
   cases gk with
   | zero => exact absurd HA.out (by simp [pascalineref02_Text.l0])
   | succ k1 =>
    have H := HA.out
    clear HA
    simp only [pascalineref02_Text.l0] at H
    by_cases c13 : x7_1 < (t301.length : Int)
    ·
     rw [if_pos c13] at H
     have c13b0 : decide (x7_1 < (t301.length : Int)) = true := decide_eq_true c13
     clear c13
     by_cases c14 : x7_1 > 0
     ·
      rw [if_pos c14] at H
      have c14b0 : decide (0 < x7_1) = true := decide_eq_true c14
      clear c14
      by_cases c15 : x5_1.size + 1 ≤ 9223372036854775807
      ·
       rw [if_pos c15] at H
       have c15b0 := eq_true c15
       have c15b1 : decide (x5_1.size + 1 ≤ 9223372036854775807) = true := decide_eq_true c15
       try have c15b2 : (9223372036854775807 < x5_1.size + 1) = False := eq_false (Nat.not_lt.2 c15)
       try (have c15s2 := c15b2; simp only [ByteArray.size_append, Go.Proofs.Ytmajngcgejkghaa.C.ba_lit, List.size_toArray, List.length_cons, List.length_nil, Nat.zero_add, Nat.reduceAdd] at c15s2)
       by_cases c16 : (x5_1 ++ (⟨#[44]⟩ : ByteArray)).size + 1 ≤ 9223372036854775807
       ·
        rw [if_pos c16] at H
        have c16b0 := eq_true c16
        have c16b1 : decide ((x5_1 ++ (⟨#[44]⟩ : ByteArray)).size + 1 ≤ 9223372036854775807) = true := decide_eq_true c16
        try have c16b2 : (9223372036854775807 < (x5_1 ++ (⟨#[44]⟩ : ByteArray)).size + 1) = False := eq_false (Nat.not_lt.2 c16)
        try (have c16s2 := c16b2; simp only [ByteArray.size_append, Go.Proofs.Ytmajngcgejkghaa.C.ba_lit, List.size_toArray, List.length_cons, List.length_nil, Nat.zero_add, Nat.reduceAdd] at c16s2)
        by_cases c17 : 0 ≤ x7_1
        ·
         rw [if_pos c17] at H
         have c17b0 : decide (0 ≤ x7_1) = true := decide_eq_true c17
         clear c17
         by_cases c18 : ((x5_1 ++ (⟨#[44]⟩ : ByteArray)) ++ (⟨#[32]⟩ : ByteArray)).size + (rdOf ByteArray.empty t301 x7_1).size ≤ 9223372036854775807
         ·
          rw [if_pos c18] at H
          have c18b0 := eq_true c18
          have c18b1 : decide (((x5_1 ++ (⟨#[44]⟩ : ByteArray)) ++ (⟨#[32]⟩ : ByteArray)).size + (rdOf ByteArray.empty t301 x7_1).size ≤ 9223372036854775807) = true := decide_eq_true c18
          try have c18b2 : (9223372036854775807 < ((x5_1 ++ (⟨#[44]⟩ : ByteArray)) ++ (⟨#[32]⟩ : ByteArray)).size + (rdOf ByteArray.empty t301 x7_1).size) = False := eq_false (Nat.not_lt.2 c18)
          try (have c18s2 := c18b2; simp only [ByteArray.size_append, Go.Proofs.Ytmajngcgejkghaa.C.ba_lit, List.size_toArray, List.length_cons, List.length_nil, Nat.zero_add, Nat.reduceAdd] at c18s2)
          have H' := mK H
          clear H
          obtain ⟨Ao19, co19, eo19⟩ := Kd.R_slice HO_6.out
          subst eo19
          have p304 : 0 ≤ (x7_1 : Int) := of_decide_eq_true (by first | (with_reducible assumption) | assumption)
          have q304 : x7_1 < (t301.length : Int) := of_decide_eq_true (by first | (with_reducible assumption) | assumption)
          obtain ⟨ad304, e304, hx304_0⟩ := Kd.at_string (Kd.R_reads' HO_6.out).2.2 x7_1 p304 q304
          cases e304
          replace p304 := eq_true p304
          replace q304 := eq_true q304
          go_wp2
          go_roundg k1
          case measure => have := HK1.out; omega
          case rel => exact ⟨(((x5_1 ++ (⟨#[44]⟩ : ByteArray)) ++ (⟨#[32]⟩ : ByteArray)) ++ (rdOf ByteArray.empty t301 x7_1)), (wrap64 (x7_1 + 1)), (by first | rfl | (simp; done) | (simp [*]; done)), (by first | rfl | (simp; done) | (simp [*]; done)), H', ⟨by have := HK1.out; omega⟩, ⟨by (with_reducible repeat (first | apply Kd.R_alloc | apply Kd.R_drewN | apply Kd.R_drew)); exact HO_6.out⟩, ⟨by (with_reducible repeat (first | refine kN ?_ _ | refine kD ?_ | refine kA ?_ _)); exact BK298.out⟩, ⟨by repeat (first | (with_reducible first | exact HB.out | apply bA | apply bN | apply bD | refine bS ?_ GE298.out) | exact HB.out)⟩⟩
         ·
          rw [if_neg c18] at H
          exact absurd H (by simp)
        ·
         rw [if_neg c17] at H
         exact absurd H (by simp)
       ·
        rw [if_neg c16] at H
        exact absurd H (by simp)
      ·
       rw [if_neg c15] at H
       exact absurd H (by simp)
     ·
      rw [if_neg c14] at H
      have c14b0 : decide (0 < x7_1) = false := decide_eq_false c14
      clear c14
      by_cases c20 : x5_1.size + 1 ≤ 9223372036854775807
      ·
       rw [if_pos c20] at H
       have c20b0 := eq_true c20
       have c20b1 : decide (x5_1.size + 1 ≤ 9223372036854775807) = true := decide_eq_true c20
       try have c20b2 : (9223372036854775807 < x5_1.size + 1) = False := eq_false (Nat.not_lt.2 c20)
       try (have c20s2 := c20b2; simp only [ByteArray.size_append, Go.Proofs.Ytmajngcgejkghaa.C.ba_lit, List.size_toArray, List.length_cons, List.length_nil, Nat.zero_add, Nat.reduceAdd] at c20s2)
       by_cases c21 : 0 ≤ x7_1
       ·
        rw [if_pos c21] at H
        have c21b0 : decide (0 ≤ x7_1) = true := decide_eq_true c21
        clear c21
        by_cases c22 : (x5_1 ++ (⟨#[32]⟩ : ByteArray)).size + (rdOf ByteArray.empty t301 x7_1).size ≤ 9223372036854775807
        ·
         rw [if_pos c22] at H
         have c22b0 := eq_true c22
         have c22b1 : decide ((x5_1 ++ (⟨#[32]⟩ : ByteArray)).size + (rdOf ByteArray.empty t301 x7_1).size ≤ 9223372036854775807) = true := decide_eq_true c22
         try have c22b2 : (9223372036854775807 < (x5_1 ++ (⟨#[32]⟩ : ByteArray)).size + (rdOf ByteArray.empty t301 x7_1).size) = False := eq_false (Nat.not_lt.2 c22)
         try (have c22s2 := c22b2; simp only [ByteArray.size_append, Go.Proofs.Ytmajngcgejkghaa.C.ba_lit, List.size_toArray, List.length_cons, List.length_nil, Nat.zero_add, Nat.reduceAdd] at c22s2)
         have H' := mK H
         clear H
         obtain ⟨Ao23, co23, eo23⟩ := Kd.R_slice HO_6.out
         subst eo23
         have p305 : 0 ≤ (x7_1 : Int) := of_decide_eq_true (by first | (with_reducible assumption) | assumption)
         have q305 : x7_1 < (t301.length : Int) := of_decide_eq_true (by first | (with_reducible assumption) | assumption)
         obtain ⟨ad305, e305, hx305_0⟩ := Kd.at_string (Kd.R_reads' HO_6.out).2.2 x7_1 p305 q305
         cases e305
         replace p305 := eq_true p305
         replace q305 := eq_true q305
         go_wp2
         go_roundg k1
         case measure => have := HK1.out; omega
         case rel => exact ⟨((x5_1 ++ (⟨#[32]⟩ : ByteArray)) ++ (rdOf ByteArray.empty t301 x7_1)), (wrap64 (x7_1 + 1)), (by first | rfl | (simp; done) | (simp [*]; done)), (by first | rfl | (simp; done) | (simp [*]; done)), H', ⟨by have := HK1.out; omega⟩, ⟨by (with_reducible repeat (first | apply Kd.R_alloc | apply Kd.R_drewN | apply Kd.R_drew)); exact HO_6.out⟩, ⟨by (with_reducible repeat (first | refine kN ?_ _ | refine kD ?_ | refine kA ?_ _)); exact BK298.out⟩, ⟨by repeat (first | (with_reducible first | exact HB.out | apply bA | apply bN | apply bD | refine bS ?_ GE298.out) | exact HB.out)⟩⟩
        ·
         rw [if_neg c22] at H
         exact absurd H (by simp)
       ·
        rw [if_neg c21] at H
        exact absurd H (by simp)
      ·
       rw [if_neg c20] at H
       exact absurd H (by simp)
    ·
     rw [if_neg c13] at H
     have c13b0 : decide (x7_1 < (t301.length : Int)) = false := decide_eq_false c13
     clear c13
     simp only [Option.some.injEq, Prod.mk.injEq] at H
     obtain ⟨rfl, rfl⟩ := H
     obtain ⟨Ao24, co24, eo24⟩ := Kd.R_slice HO_6.out
     subst eo24
     go_wp2
     go_ret2
     exact ⟨by first | rfl | (simp [errW_none, errW_some] <;> rfl) | (simp [*, errW_none, errW_some] <;> rfl), by repeat (first | (with_reducible first | exact HB.out | apply bA | apply bN | apply bD | refine bS ?_ GE298.out) | exact HB.out)⟩
 ·
  rw [if_neg c3] at H
  have c3b0 : (t299 == 0) = false := bQ c3
  have c3b1 : (t299 != 0) = true := bne_iff_ne.mpr c3
  simp only [Option.some.injEq, Prod.mk.injEq] at H
  obtain ⟨rfl, rfl⟩ := H
  go_enter Try.func21, Try.ntmps21
  go_wp2_with (first | ((with_reducible refine gate_dst (N := 1) rfl ?_); refine box_event ?hg (N := 1) ?hd (cs := #[.int .i64 a0_0, .int .i64 a0_1, .int .i64 a0_2, .int .i64 a0_3, .int .i64 a0_4]) (t := 31) ?hr ?_; (case hd => rfl); (case hg => rfl); (case hr => first | (go_simp; done) | (go_simp; rfl)); intro gb298 hg w25 hbox hb; have n0_ := mK (bP (by repeat (first | (with_reducible first | exact HB.out | apply bA | apply bN | apply bD) | exact HB.out)) hb); have n1_ := mK (hbox); have n2_ := mK ((by rw [hg]; exact (bZ (by repeat (first | (with_reducible first | exact HB.out | apply bA | apply bN | apply bD) | exact HB.out))) : w.heap.size ≤ gb298)); have n3_ := mK ((by rw [hg]; exact (bZ (by repeat (first | (with_reducible first | exact HB.out | apply bA | apply bN | apply bD) | exact HB.out))) : w.heap.size ≤ gb298)); clear HB; have HB := n0_; have BK298 := n1_; have GW298 := n2_; have GE298 := n3_; clear n0_ n1_ n2_ n3_; clear hb hbox hg; obtain ⟨hcz26_0, hcz26_1, hcz26_2, hcz26_3, hcz26_4, hfz26_0, hfz26_1, hfz26_2, hfz26_3, hfz26_4⟩ := cf5 BK298.out) | ((with_reducible refine gate_callee (f := 25) rfl ?_); refine goesL_ (some 9) rfl rfl Try.func25 (by kernel_rfl) rfl #[.agg #[.int .i64 a0_0, .int .i64 a0_1, .int .i64 a0_2, .int .i64 a0_3, .int .i64 a0_4]] rfl (by (try simp only [List.map_toArray, List.map_cons, List.map_nil]); first | done | rfl) ?_; (with_reducible refine (pascalineref02_Check.calls k a0_0 a0_1 a0_2 a0_3 a0_4 t299 _ A2.out).mono ?_); rintro e w27 ⟨rfl, hb⟩; refine ⟨_, rfl, ?_⟩; have n0_ := mK (kB (g := gb298) (o := o5 a0_0 a0_1 a0_2 a0_3 a0_4 31) (by (with_reducible repeat (first | refine kN ?_ _ | refine kD ?_ | refine kA ?_ _)); exact BK298.out) hb); have n1_ := mK (bP (by repeat (first | (with_reducible first | exact HB.out | apply bA | apply bN | apply bD | refine bS ?_ GE298.out) | exact HB.out)) hb); clear BK298; clear HB; have BK298 := n0_; have HB := n1_; clear n0_ n1_; (try clear hb)))
  go_ret2
  exact ⟨by first | rfl | (simp [errW_none, errW_some] <;> rfl) | (simp [*, errW_none, errW_some] <;> rfl), by repeat (first | (with_reducible first | exact HB.out | apply bA | apply bN | apply bD | refine bS ?_ GE298.out) | exact HB.out)⟩

end Go.Proofs.Ytmajngcgejkghaa.P

namespace Go.Proofs.Ytmajngcgejkghaa.P
open Go.RowKit Go.Proofs.YtmajngcgejkghaaW.PrintWords Go.Proofs.YtmajngcgejkghaaW.PrintLast Go.Proofs.YtmajngcgejkghaaW.PrintMore
attribute [local go_sem] max2_int min2_int max_two min_two max_three min_three max_four min_four   -- for this text's walks alone
set_option linter.unusedVariables false
set_option linter.unusedSimpArgs false

/-! ### word_Parse: function 33 -/
mutual
def word_Parse.j0 : Nat → ByteArray → Bool → Option (Int × Bool)
 | 0, _, _ => none
 | k + 1, x0, x4 => if x4 = true then (if 1 ≤ (x0.size : Int) then (word_Parse.j1 k (x0.extract 1 x0.size) x4) else (none)) else (word_Parse.j1 k x0 x4)
def word_Parse.j1 : Nat → ByteArray → Bool → Option (Int × Bool)
 | 0, _, _ => none
 | k + 1, x0, x4 => if x0.toList = ([] : List UInt8) then (word_Parse.j2 k x0 x4 true) else (if (x0.size : Int) > 10 then (word_Parse.j2 k x0 x4 true) else (if (x0.size : Int) > 1 then (if 0 < (x0.size : Int) then (if (bt x0 0) = 48 then (word_Parse.j2 k x0 x4 true) else (if x4 = true then (word_Parse.j2 k x0 x4 (x0.toList == ([48] : List UInt8))) else (word_Parse.j2 k x0 x4 false))) else (none)) else (if x4 = true then (word_Parse.j2 k x0 x4 (x0.toList == ([48] : List UInt8))) else (word_Parse.j2 k x0 x4 false))))
def word_Parse.j2 : Nat → ByteArray → Bool → Bool → Option (Int × Bool)
 | 0, _, _, _ => none
 | k + 1, x0, x4, x41 => if x41 = true then (some (0, false)) else (word_Parse.l0 k x0 x4 0 (x0.size : Int) 0)
def word_Parse.l0 : Nat → ByteArray → Bool → Int → Int → Int → Option (Int × Bool)
 | 0, _, _, _, _, _ => none
 | k + 1, x0, x4, x5, x43, x44 => if x44 < x43 then (if 0 ≤ x44 then (if x44 < (x0.size : Int) then (if (bt x0 x44) < 48 then (some (0, false)) else (if (bt x0 x44) > 57 then (some (0, false)) else (word_Parse.l0 k x0 x4 (wrap64 ((wrap64 (x5 * 10)) + (((bt x0 x44) - 48) % 256))) x43 (wrap64 (x44 + 1))))) else (none)) else (none)) else (if x4 = true then (if (wrap64 (-x5)) < (-2147483648) then (some (0, false)) else (if (wrap64 (-x5)) > 2147483647 then (some (0, false)) else (some (wrap32 (wrap64 (-x5)), true)))) else (if x5 < (-2147483648) then (some (0, false)) else (if x5 > 2147483647 then (some (0, false)) else (some (wrap32 (x5), true)))))
end
def word_Parse.f (k : Nat) (a0 : ByteArray) : Option (Int × Bool) := if (a0.size : Int) > 0 then (if 0 < (a0.size : Int) then (word_Parse.j0 k a0 ((bt a0 0) == 45)) else (none)) else (word_Parse.j0 k a0 false)
theorem word_Parse.mono_l : ∀ k, (∀ y0 y1, LeO (word_Parse.j0 k y0 y1) (word_Parse.j0 (k + 1) y0 y1)) ∧ (∀ y0 y1, LeO (word_Parse.j1 k y0 y1) (word_Parse.j1 (k + 1) y0 y1)) ∧ (∀ y0 y1 y2, LeO (word_Parse.j2 k y0 y1 y2) (word_Parse.j2 (k + 1) y0 y1 y2)) ∧ (∀ y0 y1 y2 y3 y4, LeO (word_Parse.l0 k y0 y1 y2 y3 y4) (word_Parse.l0 (k + 1) y0 y1 y2 y3 y4))
 | 0 => ⟨fun _ _ r h => by simp [word_Parse.j0] at h, fun _ _ r h => by simp [word_Parse.j1] at h, fun _ _ _ r h => by simp [word_Parse.j2] at h, fun _ _ _ _ _ r h => by simp [word_Parse.l0] at h⟩
 | k + 1 => by
  obtain ⟨ih0, ih1, ih2, ih3⟩ := word_Parse.mono_l k
  refine ⟨?_, ?_, ?_, ?_⟩
  ·
   intro y0 y1
   unfold word_Parse.j0
   repeat' first
   | (with_reducible exact ih0 _ _)
   | (with_reducible exact ih1 _ _)
   | (with_reducible exact ih2 _ _ _)
   | (with_reducible exact ih3 _ _ _ _ _)
   | (with_reducible exact LeO.refl _)
   | (with_reducible exact LeO.none _)
   | (with_reducible refine LeO.ite ?_ ?_)
   | (with_reducible refine LeO.bind ?_ (fun _ => ?_))
   | exact LeO.none _
   | refine LeO.ite ?_ ?_
   | refine LeO.bind ?_ (fun _ => ?_)
  ·
   intro y0 y1
   unfold word_Parse.j1
   repeat' first
   | (with_reducible exact ih0 _ _)
   | (with_reducible exact ih1 _ _)
   | (with_reducible exact ih2 _ _ _)
   | (with_reducible exact ih3 _ _ _ _ _)
   | (with_reducible exact LeO.refl _)
   | (with_reducible exact LeO.none _)
   | (with_reducible refine LeO.ite ?_ ?_)
   | (with_reducible refine LeO.bind ?_ (fun _ => ?_))
   | exact LeO.none _
   | refine LeO.ite ?_ ?_
   | refine LeO.bind ?_ (fun _ => ?_)
  ·
   intro y0 y1 y2
   unfold word_Parse.j2
   repeat' first
   | (with_reducible exact ih0 _ _)
   | (with_reducible exact ih1 _ _)
   | (with_reducible exact ih2 _ _ _)
   | (with_reducible exact ih3 _ _ _ _ _)
   | (with_reducible exact LeO.refl _)
   | (with_reducible exact LeO.none _)
   | (with_reducible refine LeO.ite ?_ ?_)
   | (with_reducible refine LeO.bind ?_ (fun _ => ?_))
   | exact LeO.none _
   | refine LeO.ite ?_ ?_
   | refine LeO.bind ?_ (fun _ => ?_)
  ·
   intro y0 y1 y2 y3 y4
   unfold word_Parse.l0
   repeat' first
   | (with_reducible exact ih0 _ _)
   | (with_reducible exact ih1 _ _)
   | (with_reducible exact ih2 _ _ _)
   | (with_reducible exact ih3 _ _ _ _ _)
   | (with_reducible exact LeO.refl _)
   | (with_reducible exact LeO.none _)
   | (with_reducible refine LeO.ite ?_ ?_)
   | (with_reducible refine LeO.bind ?_ (fun _ => ?_))
   | exact LeO.none _
   | refine LeO.ite ?_ ?_
   | refine LeO.bind ?_ (fun _ => ?_)
theorem word_Parse.mono : ∀ a0 k, LeO (word_Parse.f k a0) (word_Parse.f (k + 1) a0) := by
 intro a0 k
 obtain ⟨ih0, ih1, ih2, ih3⟩ := word_Parse.mono_l k
 unfold word_Parse.f
 repeat' first
  | (with_reducible exact ih0 _ _)
  | (with_reducible exact ih1 _ _)
  | (with_reducible exact ih2 _ _ _)
  | (with_reducible exact ih3 _ _ _ _ _)
  | (with_reducible exact LeO.refl _)
  | (with_reducible exact LeO.none _)
  | (with_reducible refine LeO.ite ?_ ?_)
  | (with_reducible refine LeO.bind ?_ (fun _ => ?_))
  | exact LeO.none _
  | refine LeO.ite ?_ ?_
  | refine LeO.bind ?_ (fun _ => ?_)
set_option maxHeartbeats 8000000 in
set_option maxRecDepth 100000 in
theorem word_Parse.calls (k : Nat) (a0 : ByteArray) (r1 : Int) (r2 : Bool) (w : World) (h : word_Parse.f k a0 = some (r1, r2)) :
 Calls Try.prog 33 #[.string a0] w fun e w' => e = .returned (.tuple #[.int .i32 r1, .bool r2]) ∧ Drawn0 w w' := by
 have H : (if (a0.size : Int) > 0 then (if 0 < (a0.size : Int) then (word_Parse.j0 k a0 ((bt a0 0) == 45)) else (none)) else (word_Parse.j0 k a0 false)) = some (r1, r2) := h
 clear h
 have HC2 := mK H
 clear H
 go_enter Try.func33, Try.ntmps33
 go_upto_region 1 with (fail)
 go_cut [4] (fun v4 wc => ∃ (kq : Nat) (x4_1 : Bool), v4 = .bool x4_1 ∧ Aside0 (word_Parse.j0 kq a0 x4_1 = some (r1, r2)) ∧ Aside0 (kq ≤ k) ∧ Drawn0 w wc)
 case first =>
  have H := HC2.out
  clear HC2
  by_cases c3 : (a0.size : Int) > 0
  ·
   rw [if_pos c3] at H
   have c3b0 : decide (0 < (a0.size : Int)) = true := decide_eq_true c3
   have c3b1 : decide (0 < a0.size) = true := decide_eq_true (by omega)
   clear c3
   (first | rw [c3b0] | (simp only [i64_w, i32_w]; rw [c3b0]) | skip)
   by_cases c4 : 0 < (a0.size : Int)
   ·
    rw [if_pos c4] at H
    have c4b0 : decide (0 < (a0.size : Int)) = true := decide_eq_true c4
    have c4b1 : decide (0 < a0.size) = true := decide_eq_true (by omega)
    clear c4
    have H' := mK H
    clear H
    have p5 : 0 ≤ (0 : Int) := (by omega)
    have q5 : 0 < a0.size := (by have : (0 : Int) < (a0.size : Int) := of_decide_eq_true (by first | (with_reducible assumption) | assumption); omega)
    have hx5 : ∀ h : 0 < a0.size, ((a0[0]'h).toNat : Int) = bt a0 0 := bt_at a0 0
    clear p5
    have qi5 : (0 < (a0.size : Int)) = True := eq_true (of_decide_eq_true (by first | (with_reducible assumption) | assumption))
    replace q5 := eq_true q5
    go_wp2
    go_meet
    case rel => exact ⟨_, (((bt a0 0) == 45)), (by first | rfl | (simp; done) | (simp [*]; done)), H', ⟨by first | omega | exact Nat.le_refl _⟩, by repeat (first | exact Drawn0.refl _ | apply Drawn0.step)⟩
   ·
    rw [if_neg c4] at H
    exact absurd H (by simp)
  ·
   rw [if_neg c3] at H
   have c3b0 : decide (0 < (a0.size : Int)) = false := decide_eq_false c3
   have c3b1 : decide (0 < a0.size) = false := decide_eq_false (by omega)
   clear c3
   (first | rw [c3b0] | (simp only [i64_w, i32_w]; rw [c3b0]) | skip)
   have H' := mK H
   clear H
   go_wp2
   go_meet
   case rel => exact ⟨_, (false), (by first | rfl | (simp; done) | (simp [*]; done)), H', ⟨by first | omega | exact Nat.le_refl _⟩, by repeat (first | exact Drawn0.refl _ | apply Drawn0.step)⟩
 case rest =>
  clear HC2
  obtain ⟨kq, x4_1, rfl, HA, HJ1, ⟨mc1, rfl⟩⟩ := hcut
  cases kq with
  | zero => exact absurd HA.out (by simp [word_Parse.j0])
  | succ kj1 =>
   have H := HA.out
   clear HA
   simp only [word_Parse.j0] at H
   have HC6 := mK H
   clear H
   go_upto_if 15 with (fail)
   go_cut [0] (fun v0 wc => ∃ (kq : Nat) (x0_5 : ByteArray), v0 = .string x0_5 ∧ Aside0 (word_Parse.j1 kq x0_5 x4_1 = some (r1, r2)) ∧ Aside0 (kq ≤ kj1) ∧ Drawn0 w wc)
   case first =>
    have H := HC6.out
    clear HC6
    by_cases c7 : x4_1 = true
    ·
     subst c7
     have H1 : (if 1 ≤ (a0.size : Int) then (word_Parse.j1 kj1 (a0.extract 1 a0.size) true) else (none)) = some (r1, r2) := by rw [if_pos rfl] at H; exact H
     clear H
     have H := H1
     clear H1
     by_cases c8 : 1 ≤ (a0.size : Int)
     ·
      rw [if_pos c8] at H
      have c8b0 := eq_true c8
      have c8b1 : decide (1 ≤ (a0.size : Int)) = true := decide_eq_true c8
      clear c8
      have H' := mK H
      clear H
      go_wp2
      go_meet
      case rel => exact ⟨_, (a0.extract 1 a0.size), (by first | rfl | (simp; done) | (simp [*]; done)), H', ⟨by have := HJ1.out; first | omega | exact Nat.le_refl _⟩, by repeat (first | exact Drawn0.refl _ | apply Drawn0.step)⟩
     ·
      rw [if_neg c8] at H
      exact absurd H (by simp)
    ·
     replace c7 := Bool.eq_false_iff.mpr c7
     subst c7
     have H1 : (word_Parse.j1 kj1 a0 false) = some (r1, r2) := by rw [if_neg (show ¬ (false = true) by decide)] at H; exact H
     clear H
     have H := H1
     clear H1
     have H' := mK H
     clear H
     go_wp2
     go_meet
     case rel => exact ⟨_, (a0), (by first | rfl | (simp; done) | (simp [*]; done)), H', ⟨by have := HJ1.out; first | omega | exact Nat.le_refl _⟩, by repeat (first | exact Drawn0.refl _ | apply Drawn0.step)⟩
   case rest =>
    clear HC6
    obtain ⟨kq, x0_5, rfl, HA, HJ5, ⟨mc5, rfl⟩⟩ := hcut
    cases kq with
    | zero => exact absurd HA.out (by simp [word_Parse.j1])
    | succ kj5 =>
     have H := HA.out
     clear HA
     simp only [word_Parse.j1] at H
     have HC9 := mK H
     clear H
     go_upto_region 4 with (fail)
     go_cut [41] (fun v41 wc => ∃ (kq : Nat) (x41_8 : Bool), v41 = .bool x41_8 ∧ Aside0 (word_Parse.j2 kq x0_5 x4_1 x41_8 = some (r1, r2)) ∧ Aside0 (kq ≤ kj5) ∧ Drawn0 w wc)
     case first =>
      have H := HC9.out
      clear HC9
      by_cases c10 : x0_5.toList = ([] : List UInt8)
      ·
       rw [if_pos c10] at H
       have c10b0 : (x0_5.toList == ([] : List UInt8)) = true := beq_iff_eq.mpr c10
       have c10b1 : (x0_5.toList != ([] : List UInt8)) = false := bR c10
       clear c10
       (first | rw [c10b0] | (simp only [i64_w, i32_w]; rw [c10b0]) | skip)
       have H' := mK H
       clear H
       go_wp2
       go_meet
       case rel => exact ⟨_, (true), (by first | rfl | (simp; done) | (simp [*]; done)), H', ⟨by have := HJ1.out; have := HJ5.out; first | omega | exact Nat.le_refl _⟩, by repeat (first | exact Drawn0.refl _ | apply Drawn0.step)⟩
      ·
       rw [if_neg c10] at H
       have c10b0 : (x0_5.toList == ([] : List UInt8)) = false := bQ c10
       have c10b1 : (x0_5.toList != ([] : List UInt8)) = true := bne_iff_ne.mpr c10
       (first | rw [c10b0] | (simp only [i64_w, i32_w]; rw [c10b0]) | skip)
       by_cases c11 : (x0_5.size : Int) > 10
       ·
        rw [if_pos c11] at H
        have c11b0 : decide (10 < (x0_5.size : Int)) = true := decide_eq_true c11
        have c11b1 : decide (10 < x0_5.size) = true := decide_eq_true (by omega)
        clear c11
        have H' := mK H
        clear H
        go_wp2
        go_meet
        case rel => exact ⟨_, (true), (by first | rfl | (simp; done) | (simp [*]; done)), H', ⟨by have := HJ1.out; have := HJ5.out; first | omega | exact Nat.le_refl _⟩, by repeat (first | exact Drawn0.refl _ | apply Drawn0.step)⟩
       ·
        rw [if_neg c11] at H
        have c11b0 : decide (10 < (x0_5.size : Int)) = false := decide_eq_false c11
        have c11b1 : decide (10 < x0_5.size) = false := decide_eq_false (by omega)
        clear c11
        by_cases c12 : (x0_5.size : Int) > 1
        ·
         rw [if_pos c12] at H
         have c12b0 : decide (1 < (x0_5.size : Int)) = true := decide_eq_true c12
         have c12b1 : decide (1 < x0_5.size) = true := decide_eq_true (by omega)
         clear c12
         by_cases c13 : 0 < (x0_5.size : Int)
         ·
          rw [if_pos c13] at H
          have c13b0 : decide (0 < (x0_5.size : Int)) = true := decide_eq_true c13
          have c13b1 : decide (0 < x0_5.size) = true := decide_eq_true (by omega)
          clear c13
          by_cases c15 : (bt x0_5 0) = 48
          ·
           rw [if_pos c15] at H
           have c15b0 : ((bt x0_5 0) == 48) = true := beq_iff_eq.mpr c15
           have c15b1 : ((bt x0_5 0) != 48) = false := bR c15
           clear c15
           have H' := mK H
           clear H
           have p14 : 0 ≤ (0 : Int) := (by omega)
           have q14 : 0 < x0_5.size := (by have : (0 : Int) < (x0_5.size : Int) := of_decide_eq_true (by first | (with_reducible assumption) | assumption); omega)
           have hx14 : ∀ h : 0 < x0_5.size, ((x0_5[0]'h).toNat : Int) = bt x0_5 0 := bt_at x0_5 0
           clear p14
           have qi14 : (0 < (x0_5.size : Int)) = True := eq_true (of_decide_eq_true (by first | (with_reducible assumption) | assumption))
           replace q14 := eq_true q14
           go_wp2
           go_meet
           case rel => exact ⟨_, (true), (by first | rfl | (simp; done) | (simp [*]; done)), H', ⟨by have := HJ1.out; have := HJ5.out; first | omega | exact Nat.le_refl _⟩, by repeat (first | exact Drawn0.refl _ | apply Drawn0.step)⟩
          ·
           rw [if_neg c15] at H
           have c15b0 : ((bt x0_5 0) == 48) = false := bQ c15
           have c15b1 : ((bt x0_5 0) != 48) = true := bne_iff_ne.mpr c15
           by_cases c16 : x4_1 = true
           ·
            subst c16
            have H1 : (word_Parse.j2 kj5 x0_5 true (x0_5.toList == ([48] : List UInt8))) = some (r1, r2) := by rw [if_pos rfl] at H; exact H
            clear H
            have H := H1
            clear H1
            have H' := mK H
            clear H
            have p14 : 0 ≤ (0 : Int) := (by omega)
            have q14 : 0 < x0_5.size := (by have : (0 : Int) < (x0_5.size : Int) := of_decide_eq_true (by first | (with_reducible assumption) | assumption); omega)
            have hx14 : ∀ h : 0 < x0_5.size, ((x0_5[0]'h).toNat : Int) = bt x0_5 0 := bt_at x0_5 0
            clear p14
            have qi14 : (0 < (x0_5.size : Int)) = True := eq_true (of_decide_eq_true (by first | (with_reducible assumption) | assumption))
            replace q14 := eq_true q14
            go_wp2
            go_meet
            case rel => exact ⟨_, ((x0_5.toList == ([48] : List UInt8))), (by first | rfl | (simp; done) | (simp [*]; done)), H', ⟨by have := HJ1.out; have := HJ5.out; first | omega | exact Nat.le_refl _⟩, by repeat (first | exact Drawn0.refl _ | apply Drawn0.step)⟩
           ·
            replace c16 := Bool.eq_false_iff.mpr c16
            subst c16
            have H1 : (word_Parse.j2 kj5 x0_5 false false) = some (r1, r2) := by rw [if_neg (show ¬ (false = true) by decide)] at H; exact H
            clear H
            have H := H1
            clear H1
            have H' := mK H
            clear H
            have p14 : 0 ≤ (0 : Int) := (by omega)
            have q14 : 0 < x0_5.size := (by have : (0 : Int) < (x0_5.size : Int) := of_decide_eq_true (by first | (with_reducible assumption) | assumption); omega)
            have hx14 : ∀ h : 0 < x0_5.size, ((x0_5[0]'h).toNat : Int) = bt x0_5 0 := bt_at x0_5 0
            clear p14
            have qi14 : (0 < (x0_5.size : Int)) = True := eq_true (of_decide_eq_true (by first | (with_reducible assumption) | assumption))
            replace q14 := eq_true q14
            go_wp2
            go_meet
            case rel => exact ⟨_, (false), (by first | rfl | (simp; done) | (simp [*]; done)), H', ⟨by have := HJ1.out; have := HJ5.out; first | omega | exact Nat.le_refl _⟩, by repeat (first | exact Drawn0.refl _ | apply Drawn0.step)⟩
         ·
          rw [if_neg c13] at H
          exact absurd H (by simp)
        ·
         rw [if_neg c12] at H
         have c12b0 : decide (1 < (x0_5.size : Int)) = false := decide_eq_false c12
         have c12b1 : decide (1 < x0_5.size) = false := decide_eq_false (by omega)
         clear c12
         by_cases c17 : x4_1 = true
         ·
          subst c17
          have H1 : (word_Parse.j2 kj5 x0_5 true (x0_5.toList == ([48] : List UInt8))) = some (r1, r2) := by rw [if_pos rfl] at H; exact H
          clear H
          have H := H1
          clear H1
          have H' := mK H
          clear H
          go_wp2
          go_meet
          case rel => exact ⟨_, ((x0_5.toList == ([48] : List UInt8))), (by first | rfl | (simp; done) | (simp [*]; done)), H', ⟨by have := HJ1.out; have := HJ5.out; first | omega | exact Nat.le_refl _⟩, by repeat (first | exact Drawn0.refl _ | apply Drawn0.step)⟩
         ·
          replace c17 := Bool.eq_false_iff.mpr c17
          subst c17
          have H1 : (word_Parse.j2 kj5 x0_5 false false) = some (r1, r2) := by rw [if_neg (show ¬ (false = true) by decide)] at H; exact H
          clear H
          have H := H1
          clear H1
          have H' := mK H
          clear H
          go_wp2
          go_meet
          case rel => exact ⟨_, (false), (by first | rfl | (simp; done) | (simp [*]; done)), H', ⟨by have := HJ1.out; have := HJ5.out; first | omega | exact Nat.le_refl _⟩, by repeat (first | exact Drawn0.refl _ | apply Drawn0.step)⟩
     case rest =>
      clear HC9
      obtain ⟨kq, x41_8, rfl, HA, HJ8, ⟨mc8, rfl⟩⟩ := hcut
      cases kq with
      | zero => exact absurd HA.out (by simp [word_Parse.j2])
      | succ kj8 =>
       have H := HA.out
       clear HA
       simp only [word_Parse.j2] at H
       by_cases c18 : x41_8 = true
       ·
        subst c18
        have H1 : (some (0, false)) = some (r1, r2) := by rw [if_pos rfl] at H; exact H
        clear H
        have H := H1
        clear H1
        simp only [Option.some.injEq, Prod.mk.injEq] at H
        obtain ⟨rfl, rfl⟩ := H
        go_wp2
        go_ret2
        exact ⟨by first | rfl | (simp; done) | (simp [*]; done), by repeat (first | exact Drawn0.refl _ | apply Drawn0.step)⟩
       ·
        replace c18 := Bool.eq_false_iff.mpr c18
        subst c18
        have H1 : (word_Parse.l0 kj8 x0_5 x4_1 0 (x0_5.size : Int) 0) = some (r1, r2) := by rw [if_neg (show ¬ (false = true) by decide)] at H; exact H
        clear H
        have H := H1
        clear H1
        have H' := mK H
        clear H
        go_wp2
        go_loopg [5, 44] kj8 (fun kq v5 v44 w' => ∃ (x5_4 : Int) (x44_4 : Int), v5 = .int .i64 x5_4 ∧ v44 = .int .i64 x44_4 ∧ Aside0 (word_Parse.l0 kq x0_5 x4_1 x5_4 (x0_5.size : Int) x44_4 = some (r1, r2)) ∧ Aside0 (kq ≤ kj8) ∧ Drawn0 w w')
        case atStart => exact ⟨(0), (0), (by first | rfl | (simp; done) | (simp [*]; done)), (by first | rfl | (simp; done) | (simp [*]; done)), H', ⟨Nat.le_refl _⟩, by repeat (first | exact Drawn0.refl _ | apply Drawn0.step)⟩
        case round =>
         clear H'
         (try clear c18)
         obtain ⟨x5_4, x44_4, rfl, rfl, HA, HK4, ⟨m4, rfl⟩⟩ := hrel
         cases gk with
         | zero => exact absurd HA.out (by simp [word_Parse.l0])
         | succ k4 =>
          have H := HA.out
          clear HA
          simp only [word_Parse.l0] at H
          by_cases c19 : x44_4 < (x0_5.size : Int)
          ·
           rw [if_pos c19] at H
           have c19b0 : decide (x44_4 < (x0_5.size : Int)) = true := decide_eq_true c19
           clear c19
           by_cases c20 : 0 ≤ x44_4
           ·
            rw [if_pos c20] at H
            have c20b0 : decide (0 ≤ x44_4) = true := decide_eq_true c20
            clear c20
            by_cases c21 : x44_4 < (x0_5.size : Int)
            ·
             rw [if_pos c21] at H
             have c21b0 : decide (x44_4 < (x0_5.size : Int)) = true := decide_eq_true c21
             clear c21
             by_cases c23 : (bt x0_5 x44_4) < 48
             ·
              rw [if_pos c23] at H
              have c23b0 : decide ((bt x0_5 x44_4) < 48) = true := decide_eq_true c23
              clear c23
              simp only [Option.some.injEq, Prod.mk.injEq] at H
              obtain ⟨rfl, rfl⟩ := H
              have p22 : 0 ≤ (x44_4 : Int) := of_decide_eq_true (by first | (with_reducible assumption) | assumption)
              have q22 : x44_4 < (x0_5.size : Int) := of_decide_eq_true (by first | (with_reducible assumption) | assumption)
              have hx22 := bt_at x0_5 x44_4
              replace p22 := eq_true p22
              replace q22 := eq_true q22
              go_wp2
              go_ret2
              exact ⟨by first | rfl | (simp; done) | (simp [*]; done), by repeat (first | exact Drawn0.refl _ | apply Drawn0.step)⟩
             ·
              rw [if_neg c23] at H
              have c23b0 : decide ((bt x0_5 x44_4) < 48) = false := decide_eq_false c23
              clear c23
              by_cases c25 : (bt x0_5 x44_4) > 57
              ·
               rw [if_pos c25] at H
               have c25b0 : decide (57 < (bt x0_5 x44_4)) = true := decide_eq_true c25
               clear c25
               simp only [Option.some.injEq, Prod.mk.injEq] at H
               obtain ⟨rfl, rfl⟩ := H
               have p22 : 0 ≤ (x44_4 : Int) := of_decide_eq_true (by first | (with_reducible assumption) | assumption)
               have q22 : x44_4 < (x0_5.size : Int) := of_decide_eq_true (by first | (with_reducible assumption) | assumption)
               have hx22 := bt_at x0_5 x44_4
               replace p22 := eq_true p22
               replace q22 := eq_true q22
               have p24 : 0 ≤ (x44_4 : Int) := of_decide_eq_true (by first | (with_reducible assumption) | assumption)
               have q24 : x44_4 < (x0_5.size : Int) := of_decide_eq_true (by first | (with_reducible assumption) | assumption)
               have hx24 := bt_at x0_5 x44_4
               replace p24 := eq_true p24
               replace q24 := eq_true q24
               go_wp2
               go_ret2
               exact ⟨by first | rfl | (simp; done) | (simp [*]; done), by repeat (first | exact Drawn0.refl _ | apply Drawn0.step)⟩
              ·
               rw [if_neg c25] at H
               have c25b0 : decide (57 < (bt x0_5 x44_4)) = false := decide_eq_false c25
               clear c25
               have H' := mK H
               clear H
               have p22 : 0 ≤ (x44_4 : Int) := of_decide_eq_true (by first | (with_reducible assumption) | assumption)
               have q22 : x44_4 < (x0_5.size : Int) := of_decide_eq_true (by first | (with_reducible assumption) | assumption)
               have hx22 := bt_at x0_5 x44_4
               replace p22 := eq_true p22
               replace q22 := eq_true q22
               have p24 : 0 ≤ (x44_4 : Int) := of_decide_eq_true (by first | (with_reducible assumption) | assumption)
               have q24 : x44_4 < (x0_5.size : Int) := of_decide_eq_true (by first | (with_reducible assumption) | assumption)
               have hx24 := bt_at x0_5 x44_4
               replace p24 := eq_true p24
               replace q24 := eq_true q24
               have p26 : 0 ≤ (x44_4 : Int) := of_decide_eq_true (by first | (with_reducible assumption) | assumption)
               have q26 : x44_4 < (x0_5.size : Int) := of_decide_eq_true (by first | (with_reducible assumption) | assumption)
               have hx26 := bt_at x0_5 x44_4
               replace p26 := eq_true p26
               replace q26 := eq_true q26
               go_wp2
               go_roundg k4
               case measure => have := HJ1.out; have := HJ5.out; have := HJ8.out; have := HK4.out; omega
               case rel => exact ⟨(wrap64 ((wrap64 (x5_4 * 10)) + (((bt x0_5 x44_4) - 48) % 256))), (wrap64 (x44_4 + 1)), (by first | rfl | (simp; done) | (simp [*]; done)), (by first | rfl | (simp; done) | (simp [*]; done)), H', ⟨by have := HJ1.out; have := HJ5.out; have := HJ8.out; have := HK4.out; omega⟩, by repeat (first | exact Drawn0.refl _ | apply Drawn0.step)⟩
            ·
             rw [if_neg c21] at H
             exact absurd H (by simp)
           ·
            rw [if_neg c20] at H
            exact absurd H (by simp)
          ·
           rw [if_neg c19] at H
           have c19b0 : decide (x44_4 < (x0_5.size : Int)) = false := decide_eq_false c19
           clear c19
           by_cases c27 : x4_1 = true
           ·
            subst c27
            have H1 : (if (wrap64 (-x5_4)) < (-2147483648) then (some (0, false)) else (if (wrap64 (-x5_4)) > 2147483647 then (some (0, false)) else (some (wrap32 (wrap64 (-x5_4)), true)))) = some (r1, r2) := by rw [if_pos rfl] at H; exact H
            clear H
            have H := H1
            clear H1
            by_cases c28 : (wrap64 (-x5_4)) < (-2147483648)
            ·
             rw [if_pos c28] at H
             have c28b0 : decide ((wrap64 (-x5_4)) < (-2147483648)) = true := decide_eq_true c28
             clear c28
             simp only [Option.some.injEq, Prod.mk.injEq] at H
             obtain ⟨rfl, rfl⟩ := H
             go_wp2
             go_ret2
             exact ⟨by first | rfl | (simp; done) | (simp [*]; done), by repeat (first | exact Drawn0.refl _ | apply Drawn0.step)⟩
            ·
             rw [if_neg c28] at H
             have c28b0 : decide ((wrap64 (-x5_4)) < (-2147483648)) = false := decide_eq_false c28
             clear c28
             by_cases c29 : (wrap64 (-x5_4)) > 2147483647
             ·
              rw [if_pos c29] at H
              have c29b0 : decide (2147483647 < (wrap64 (-x5_4))) = true := decide_eq_true c29
              clear c29
              simp only [Option.some.injEq, Prod.mk.injEq] at H
              obtain ⟨rfl, rfl⟩ := H
              go_wp2
              go_ret2
              exact ⟨by first | rfl | (simp; done) | (simp [*]; done), by repeat (first | exact Drawn0.refl _ | apply Drawn0.step)⟩
             ·
              rw [if_neg c29] at H
              have c29b0 : decide (2147483647 < (wrap64 (-x5_4))) = false := decide_eq_false c29
              clear c29
              simp only [Option.some.injEq, Prod.mk.injEq] at H
              obtain ⟨rfl, rfl⟩ := H
              go_wp2
              go_ret2
              exact ⟨by first | rfl | (simp; done) | (simp [*]; done), by repeat (first | exact Drawn0.refl _ | apply Drawn0.step)⟩
           ·
            replace c27 := Bool.eq_false_iff.mpr c27
            subst c27
            have H1 : (if x5_4 < (-2147483648) then (some (0, false)) else (if x5_4 > 2147483647 then (some (0, false)) else (some (wrap32 (x5_4), true)))) = some (r1, r2) := by rw [if_neg (show ¬ (false = true) by decide)] at H; exact H
            clear H
            have H := H1
            clear H1
            by_cases c30 : x5_4 < (-2147483648)
            ·
             rw [if_pos c30] at H
             have c30b0 : decide (x5_4 < (-2147483648)) = true := decide_eq_true c30
             clear c30
             simp only [Option.some.injEq, Prod.mk.injEq] at H
             obtain ⟨rfl, rfl⟩ := H
             go_wp2
             go_ret2
             exact ⟨by first | rfl | (simp; done) | (simp [*]; done), by repeat (first | exact Drawn0.refl _ | apply Drawn0.step)⟩
            ·
             rw [if_neg c30] at H
             have c30b0 : decide (x5_4 < (-2147483648)) = false := decide_eq_false c30
             clear c30
             by_cases c31 : x5_4 > 2147483647
             ·
              rw [if_pos c31] at H
              have c31b0 : decide (2147483647 < x5_4) = true := decide_eq_true c31
              clear c31
              simp only [Option.some.injEq, Prod.mk.injEq] at H
              obtain ⟨rfl, rfl⟩ := H
              go_wp2
              go_ret2
              exact ⟨by first | rfl | (simp; done) | (simp [*]; done), by repeat (first | exact Drawn0.refl _ | apply Drawn0.step)⟩
             ·
              rw [if_neg c31] at H
              have c31b0 : decide (2147483647 < x5_4) = false := decide_eq_false c31
              clear c31
              simp only [Option.some.injEq, Prod.mk.injEq] at H
              obtain ⟨rfl, rfl⟩ := H
              go_wp2
              go_ret2
              exact ⟨by first | rfl | (simp; done) | (simp [*]; done), by repeat (first | exact Drawn0.refl _ | apply Drawn0.step)⟩

end Go.Proofs.Ytmajngcgejkghaa.P

-- Written by a program of this session (wip/tools/hp.py) out of the translation.
import Derived.Test.YtmebogkhdbbbbaaPx0
namespace Go.Proofs.Ytmebogkhdbbbbaa.P
open Go.RowKit Go.Proofs.YtmebogkhdbbbbaaW.PrintWords Go.Proofs.YtmebogkhdbbbbaaW.PrintLast Go.Proofs.YtmebogkhdbbbbaaW.PrintMore
attribute [local go_sem] max2_int min2_int max_two min_two max_three min_three max_four min_four   -- for this text's walks alone
set_option linter.unusedVariables false
set_option linter.unusedSimpArgs false

/-! ### word_digits: function 36 -/
open Go.Proofs.Ytmebogkhdbbbbaa.C
def word_digits.f (n b least : Int) : Option ByteArray :=
  if b = 10 ∨ b = 16 then (if (0 ≤ n ∧ n < 18446744073709551616) ∧ 1 ≤ least ∧ least ≤ 64 then some (strOfNums (digs b 65 n (min 64 (max least 1).toNat))) else none) else none

theorem word_digits.inv {n b least : Int} {r : ByteArray} (h : word_digits.f n b least = some r) : (2 ≤ b ∧ b ≤ 16) ∧ (0 ≤ n ∧ n < 18446744073709551616) ∧ (1 ≤ least ∧ least ≤ 64) ∧ r = strOfNums (digs b 65 n (min 64 (max least 1).toNat)) := by
  unfold word_digits.f at h
  by_cases h1 : b = 10 ∨ b = 16
  · rw [if_pos h1] at h
    by_cases h2 : (0 ≤ n ∧ n < 18446744073709551616) ∧ 1 ≤ least ∧ least ≤ 64
    · rw [if_pos h2] at h
      injection h with h
      exact ⟨by omega, h2.1, h2.2, h.symm⟩
    · rw [if_neg h2] at h; cases h
  · rw [if_neg h1] at h; cases h

def word_digits.Inv (w w' : World) (g : Nat) (b n : Int) (m0 : Nat) (x : Int) (a : Nat) (xs : List Int) : Prop :=
  a ≤ 64 ∧ 0 ≤ x ∧ x < 2 ^ a ∧ xs.length = 64 ∧ w'.heap[g]? = some (.cells (nums .u8 xs).toArray 108 (0, 0)) ∧ digs b (a + 1) x (m0 - (64 - a)) ++ xs.drop a = digs b 65 n m0 ∧ Below w.heap.size w w'

theorem word_digits.Inv.cell {w w' : World} {g : Nat} {b n : Int} {m0 : Nat} {x : Int} {a : Nat} {xs : List Int} (h : word_digits.Inv w w' g b n m0 x a xs) (ha : 1 ≤ a) :
    w'.cell? ⟨g, a - 1, none⟩ = some (.int .u8 (xs.getD (a - 1) 0)) := by
  rw [blk_cell h.2.2.2.2.1]
  have h1 := h.1
  have h2 := h.2.2.2.1
  have h3 : a - 1 < xs.length := by omega
  simp [nums, List.getD_eq_getElem?_getD, h3]
theorem word_digits.Inv.free {w w' : World} {g : Nat} {b n : Int} {m0 : Nat} {x : Int} {a : Nat} {xs : List Int} (h : word_digits.Inv w w' g b n m0 x a xs) :
    w'.frozen? ⟨g, a - 1, none⟩ = false := blk_frozen h.2.2.2.2.1 _
theorem word_digits.Inv.step {w w' : World} {b n : Int} {m0 : Nat} {x x' : Int} {a : Nat} {xs : List Int} {v : Int} (h : word_digits.Inv w w' w.heap.size b n m0 x a xs) (ha : 1 ≤ a) (hb : 2 ≤ b) (hc : 0 < x ∨ 0 < m0 - (64 - a))
    (hv : v = dg (x % b)) (hx : x' = x / b) : word_digits.Inv w (w'.setCell ⟨w.heap.size, a - 1, none⟩ (.int .u8 v)) w.heap.size b n m0 x' (a - 1) (xs.set (a - 1) v) := by
  obtain ⟨h1, h2, h3, h4, h5, h6, h7⟩ := h
  obtain ⟨c, rfl⟩ : ∃ c, a = c + 1 := ⟨a - 1, by omega⟩
  have hd := digs_inv b hb x c h2 h3
  subst hx
  refine ⟨by omega, hd.1, hd.2, by simpa using h4, ?_, ?_, ?_⟩
  · rw [blk_set h5]; congr 2; simp [nums]
  · rw [← h6, digs_succ b (c + 1), if_pos hc, hv]
    have e1 : c + 1 - 1 = c := by omega
    have e2 : m0 - (64 - (c + 1)) - 1 = m0 - (64 - c) := by omega
    rw [e1, e2, List.append_assoc]
    congr 1
    rw [List.drop_set, if_neg (by omega)]
    have h8 : c < xs.length := by omega
    rw [List.drop_eq_getElem_cons h8]
    simp only [Nat.sub_self, List.set_cons_zero]
    rfl
  · exact h7.setCell (Nat.le_refl _) _
theorem word_digits.Inv.final {w w' : World} {g : Nat} {b n : Int} {m0 : Nat} {x : Int} {a : Nat} {xs : List Int} (h : word_digits.Inv w w' g b n m0 x a xs) (hc : ¬ (0 < x ∨ 0 < m0 - (64 - a))) : xs.drop a = digs b 65 n m0 := by
  rw [← h.2.2.2.2.2.1, digs_succ, if_neg hc]; rfl
theorem word_digits.Inv.conv {w w' : World} {g : Nat} {b n : Int} {m0 : Nat} {x : Int} {a : Nat} {xs : List Int} (h : word_digits.Inv w w' g b n m0 x a xs) (hc : ¬ (0 < x ∨ 0 < m0 - (64 - a))) (src e dst : Nat) (hs : Try.prog.underlying src = some (.slice e)) (he : Try.prog.underlying e = some (.int .u8)) (hd : Try.prog.underlying dst = some .string) :
    (convert src dst (.slice (some ⟨g, a, none⟩) (64 - a) (64 - a))).run Try.prog w' = .ok (.string (strOfNums (digs b 65 n m0))) w' := by
  have hl := h.2.2.2.1
  rw [← h.final hc]
  refine run_convert_bytes_arg w' src e hs he g a _ _ (xs.drop a) (by simp [hl]) (fun i hi => ?_) dst hd
  rw [blk_cell h.2.2.2.2.1]
  have h3 : a + i < xs.length := by omega
  simp [nums, List.getD_eq_getElem?_getD, h3]

theorem word_digits.wrap_div (x b : Int) (h0 : 0 ≤ x) (h1 : x < 2 ^ 64) (hb : 2 ≤ b) : IntKind.u64.wrap (x.tdiv b) = x / b := by
  rw [Int.tdiv_eq_ediv_of_nonneg h0]
  have hd := digs_inv b hb x 63 h0 h1
  have : (2:Int)^63 = 9223372036854775808 := by decide
  exact IntWalk.u64_in _ (by omega)

theorem word_digits.cut_arr {P : Program} (t e len : Nat) (kl : IntKind) (ht : P.underlying t = some (.array len e)) (hinfo : (P.info? e).map (fun i => i.size) = some 1) (g a : Nat) (h : a < len) :
    ∀ W : World, (Instr.sliceAt t (.pointer (some ⟨g, 0, none⟩)) (some (.int kl (a : Int))) none none).run P W = .ok (.slice (some ⟨g, a, none⟩) (len - a) (len - a)) W := by
  intro W
  obtain ⟨i, hi, hsz⟩ := Option.map_eq_some_iff.1 hinfo
  have hel : P.elem t = e := by simp [Program.elem, ht]
  have hle : P.arrayLen t = len := by simp [Program.arrayLen, ht]
  have hu : P.underlying t = some (.array (P.arrayLen t) (P.elem t)) := by rw [hel, hle]; exact ht
  rw [run_sliceAt_array_l W t ⟨g, 0, none⟩ hu kl (a : Int) (Int.natCast_nonneg _) (by omega), hel, hle]
  simp [sizeOf, typeInfo, hi, hsz, slicedAt, Result.andThen, add_plain]
  omega

set_option maxHeartbeats 400000 in
set_option maxRecDepth 100000 in
theorem word_digits.calls (n b least : Int) (r : ByteArray) (w : World) (h : word_digits.f n b least = some r) :
    Calls Try.prog 36 #[.int .u64 n, .int .u64 b, .int .i64 least] w fun e w' => e = .returned (.string r) ∧ Below w.heap.size w w' := by
  obtain ⟨⟨hb2, hb16⟩, hn, ⟨hl1, hl64⟩, hr⟩ := word_digits.inv h
  have HR := Aside0.mk hr
  have HN := Aside0.mk hn
  clear hn hr h
  go_enter Try.func36, Try.ntmps36
  go_wp2
  go_loopg [0, 8] 65 (fun kq v0 v8 w' => ∃ (x : Int) (a : Nat) (xs : List Int), v0 = .int .u64 x ∧ v8 = .int .i64 a ∧ Aside0 (kq = a + 1) ∧ Aside0 (word_digits.Inv w w' w.heap.size b n (min 64 (max least 1).toNat) x a xs))
  case atStart =>
    refine ⟨n, 64, List.replicate 64 0, rfl, rfl, ⟨rfl⟩, ⟨by omega, HN.out.1, by have := HN.out.2; omega, rfl, ?_, ?_, ?_⟩⟩
    · rw [blk_new]; rfl
    · simp
    · exact below_alloc (Below.refl _ _) _
  case round =>
    obtain ⟨x, a, xs, rfl, rfl, HK, HI⟩ := hrel
    have ha := HI.out.1
    have hx0 := HI.out.2.1
    by_cases hc : 0 < x ∨ 0 < min 64 (max least 1).toNat - (64 - a)
    · have ha1 : 1 ≤ a := by
        rcases hc with hc | hc
        · have := HI.out.2.2.1
          rcases Nat.eq_zero_or_pos a with h0 | h0
          · subst h0; simp at this; omega
          · exact h0
        · omega
      have hcell := HI.out.cell ha1
      have hfree := HI.out.free
      have hm0 : 0 ≤ x % b := Int.emod_nonneg _ (by omega)
      have hm1 : x % b < b := Int.emod_lt_of_pos _ (by omega)
      have HX : Aside0 (IntKind.u64.wrap (x.tdiv b) = x / b) := ⟨word_digits.wrap_div x b hx0 (Int.lt_of_lt_of_le HI.out.2.2.1 (by exact_mod_cast Nat.pow_le_pow_right (by omega) ha)) hb2⟩
      by_cases hd : x % b < 10
      all_goals
        by_cases hc1 : 0 < x
        · have hc1b : decide (0 < x) = true := decide_eq_true hc1
          have HC := Aside0.mk hc
          clear hc
          go_wp2
          go_roundg a
          case measure => have := HK.out; omega
          case rel => exact ⟨_, a - 1, _, rfl, by congr 1; omega, ⟨by omega⟩, ⟨HI.out.step ha1 hb2 HC.out (by first | exact dg_lo _ hd | exact dg_hi _ hd) (by first | exact HX.out | rfl)⟩⟩
        · have hc1b : decide (0 < x) = false := decide_eq_false hc1
          have h63 : 64 - least < a := by omega
          have HC := Aside0.mk hc
          clear hc
          go_wp2
          go_roundg a
          case measure => have := HK.out; omega
          case rel => exact ⟨_, a - 1, _, rfl, by congr 1; omega, ⟨by omega⟩, ⟨HI.out.step ha1 hb2 HC.out (by first | exact dg_lo _ hd | exact dg_hi _ hd) (by first | exact HX.out | rfl)⟩⟩
    · have hc1 : ¬ 0 < x := by omega
      have hc1b : decide (0 < x) = false := decide_eq_false hc1
      have ha63 : a < 64 := by omega
      have hsl := word_digits.cut_arr (P := Try.prog) 108 5 64 .i64 Try.underlying108 (by kernel_rfl) w.heap.size a ha63
      have hcv := HI.out.conv hc 79 5 9 Try.underlying79 Try.underlying5 Try.underlying9
      have h63 : ¬ 64 - least < a := by omega
      have HC := Aside0.mk hc
      clear hc
      go_wp2
      go_ret
      exact ⟨by rw [HR.out]; rfl, HI.out.2.2.2.2.2.2⟩

end Go.Proofs.Ytmebogkhdbbbbaa.P

-- Written by a program of this session (wip/tools/hp.py) out of the translation.
import Derived.Test.YtmebogkhdbbbbaaPx0
namespace Go.Proofs.Ytmebogkhdbbbbaa.P
open Go.RowKit Go.Proofs.YtmebogkhdbbbbaaW.PrintWords Go.Proofs.YtmebogkhdbbbbaaW.PrintLast Go.Proofs.YtmebogkhdbbbbaaW.PrintMore
attribute [local go_sem] max2_int min2_int max_two min_two max_three min_three max_four min_four   -- for this text's walks alone
set_option linter.unusedVariables false
set_option linter.unusedSimpArgs false

/-! ### pascalineref01_Text: function 22 -/
open Go.Proofs.Ytmebogkhdbbbbaa.C
def pascalineref01_Text.f (n : Int) : Option ByteArray := if -9223372036854775808 ≤ n ∧ n < 9223372036854775808 then some (strOfNums (textOf n)) else none

/-- One round done: a is what is left, ds the digits done. -/
def pascalineref01_Text.Inv (kq : Nat) (A a : Int) (ds : List Int) : Prop :=
  0 ≤ a ∧ a < 2 ^ kq ∧ ∃ m, (0 < a ∨ 0 < m ∧ 1 ≤ kq) ∧ digs 10 kq a m ++ ds = digs 10 65 A 1 ∧ m ≤ 1 ∧ ds.length + kq = 65 ∧ a ≤ A
theorem pascalineref01_Text.Inv.pos {kq : Nat} {A a : Int} {ds : List Int} (h : pascalineref01_Text.Inv kq A a ds) : 1 ≤ kq := by
  obtain ⟨h0, h1, m, h2, _⟩ := h
  rcases Nat.eq_zero_or_pos kq with e | e
  · subst e; simp at h1; omega
  · exact e
theorem pascalineref01_Text.Inv.step {kq : Nat} {A a : Int} {ds : List Int} (h : pascalineref01_Text.Inv (kq + 1) A a ds) :
    (a / 10 = 0 → digs 10 65 A 1 = (48 + a % 10) :: ds) ∧ (¬ a / 10 = 0 → pascalineref01_Text.Inv kq A (a / 10) ((48 + a % 10) :: ds)) := by
  obtain ⟨h0, h1, m, h2, h3, h4, h5, h6⟩ := h
  have hd := digs_inv 10 (by omega) a kq h0 h1
  have hg : dg (a % 10) = 48 + a % 10 := (dg_lo _ (by omega)).symm
  rw [digs_succ, if_pos (by omega), List.append_assoc, List.singleton_append, hg] at h3
  have hm : m - 1 = 0 := by omega
  rw [hm] at h3
  refine ⟨fun e => ?_, fun e => ⟨hd.1, hd.2, 0, .inl (by omega), h3, by omega, by simp; omega, by omega⟩⟩
  rw [e, digs_zero] at h3
  exact h3.symm
theorem pascalineref01_Text.conv (W : World) (d : Int) :
    (convert 79 9 (.slice (some ⟨W.heap.size, 0, none⟩) 1 1)).run Try.prog (W.alloc (.cells #[.int .u8 d] 5)) = .ok (.string (strOfNums [d])) (W.alloc (.cells #[.int .u8 d] 5)) := by
  refine run_convert_bytes_arg (P := Try.prog) _ 79 5 Try.underlying79 Try.underlying5 _ 0 1 1 [d] rfl (fun i hi => ?_) 9 Try.underlying9
  obtain rfl : i = 0 := by omega
  rw [blk_cell (blk_new W _)]
  rfl
theorem pascalineref01_Text.neg_tmod (x : Int) (h : 0 ≤ -x) : x.tmod 10 = -((-x) % 10) := by
  have e : x = -(-x) := by omega
  rw [e, Int.neg_tmod, Int.tmod_eq_emod_of_nonneg h, Int.neg_neg]
theorem pascalineref01_Text.neg_tdiv (x : Int) (h : 0 ≤ -x) : x.tdiv 10 = -((-x) / 10) := by
  have e : x = -(-x) := by omega
  rw [e, Int.neg_tdiv, Int.tdiv_eq_ediv_of_nonneg h, Int.neg_neg]
theorem pascalineref01_Text.dig1 (x : Int) (h : x.tmod 10 = -((-x) % 10)) : 48 + -x.tmod 10 = 48 + -x % 10 := by omega
theorem pascalineref01_Text.dig2 (x : Int) (h : x.tmod 10 = -((-x) % 10)) (h2 : 0 ≤ x.tmod 10) : 48 + x.tmod 10 = 48 + -x % 10 := by omega
theorem pascalineref01_Text.join (d : Int) (ds : List Int) : strOfNums [d] ++ strOfNums ds = strOfNums (d :: ds) := (strOfNums_cons d ds).symm
theorem pascalineref01_Text.fin (d : Int) (ds : List Int) : strOfNums (45 :: d :: ds) = (⟨#[45]⟩ : ByteArray) ++ (strOfNums [d] ++ strOfNums ds) := by
  rw [show (45 : Int) :: d :: ds = [45] ++ ([d] ++ ds) from rfl, strOfNums_append, strOfNums_append]; rfl

set_option maxHeartbeats 400000 in
set_option maxRecDepth 100000 in
theorem pascalineref01_Text.calls (n : Int) (r : ByteArray) (w : World) (h : pascalineref01_Text.f n = some r) :
    Calls Try.prog 22 #[.int .i64 n] w fun e w' => e = .returned (.string r) ∧ Below w.heap.size w w' := by
  unfold pascalineref01_Text.f at h
  by_cases hb : -9223372036854775808 ≤ n ∧ n < 9223372036854775808
  · rw [if_pos hb] at h
    injection h with h
    have HR := Aside0.mk h
    clear h
    by_cases hn : n < 0
    · have HT : Aside0 (textOf n = 45 :: digs 10 65 (-n) 1) := ⟨if_pos hn⟩
      have hnb : decide (n < 0) = true := decide_eq_true hn
      go_enter Try.func22, Try.ntmps22
      go_wp2
      go_loopg [3, 4] 65 (fun kq v3 v4 w' => ∃ (ds : List Int) (x : Int), v3 = .string (strOfNums ds) ∧ v4 = .int .i64 x ∧ Aside0 (pascalineref01_Text.Inv kq (-n) (-x) ds) ∧ Aside0 (Below w.heap.size w w'))
      case atStart =>
        refine ⟨[], n, rfl, rfl, ⟨by omega, by omega, 1, by omega, by simp, by omega, by simp, by omega⟩, ⟨Below.refl _ _⟩⟩
      case round =>
        obtain ⟨ds, x, rfl, rfl, HI, HB⟩ := hrel
        have hx0 := HI.out.1
        have hk := HI.out.pos
        obtain ⟨k, rfl⟩ : ∃ k, gk = k + 1 := ⟨gk - 1, by omega⟩
        have hs : (strOfNums ds).size ≤ 1000 := by have := HI.out.2.2; rw [strOfNums_size]; obtain ⟨m, _, _, _, h5, _⟩ := this; omega
        have hxn : -x ≤ -n := by obtain ⟨m, _, _, _, _, h6⟩ := HI.out.2.2; exact h6
        have ht : x.tmod 10 = -((-x) % 10) := pascalineref01_Text.neg_tmod x hx0
        have hq : x.tdiv 10 = -((-x) / 10) := pascalineref01_Text.neg_tdiv x hx0
        have ht0 : x.tmod 10 ≤ 0 := by omega
        have ht1 : -10 < x.tmod 10 := by omega
        have hq0 : x.tdiv 10 ≤ 0 := by omega
        have hq1 : x ≤ x.tdiv 10 := by omega
        have HT2 := Aside0.mk ht
        have HQ2 := Aside0.mk hq
        clear ht hq
        obtain ⟨hb0, hb1⟩ := hb
        by_cases hd : x.tmod 10 < 0
        all_goals
          first | have hcv := pascalineref01_Text.conv wr (48 + -x.tmod 10) | skip
          have hcv2 := pascalineref01_Text.conv wr (48 + x.tmod 10)
          have hs1 : (strOfNums [48 + x.tmod 10]).size ≤ 1 := by rw [strOfNums_size]; simp
          have hs2 : (strOfNums [48 + -x.tmod 10]).size ≤ 1 := by rw [strOfNums_size]; simp
          by_cases hz : x.tdiv 10 = 0
          · have hzb : (x.tdiv 10 == 0) = true := beq_iff_eq.mpr hz
            have HE := Aside0.mk (HI.out.step.1 (by have := HQ2.out; omega))
            clear hz
            go_wp2
            go_ret
            exact ⟨by rw [← HR.out, HT.out, HE.out, pascalineref01_Text.fin]; first | (rw [← pascalineref01_Text.dig1 x HT2.out]; rfl) | (rw [← pascalineref01_Text.dig2 x HT2.out hd]; rfl), below_alloc HB.out _⟩
          · have hzb : (x.tdiv 10 == 0) = false := beq_eq_false_iff_ne.mpr hz
            have HE := Aside0.mk (HI.out.step.2 (by have := HQ2.out; omega))
            clear hz
            go_wp2
            go_roundg k
            case measure => omega
            case rel => exact ⟨(48 + -x % 10) :: ds, x.tdiv 10, by first | (rw [pascalineref01_Text.join, ← pascalineref01_Text.dig1 x HT2.out]; done) | (rw [pascalineref01_Text.join, ← pascalineref01_Text.dig2 x HT2.out hd]; done), rfl, ⟨by have h1 := HE.out; have h2 := HQ2.out; rw [show -(x.tdiv 10) = -x / 10 by omega]; exact h1⟩, ⟨below_alloc HB.out _⟩⟩
    · have HT : Aside0 (textOf n = digs 10 65 n 1) := ⟨if_neg hn⟩
      have hnb : decide (n < 0) = false := decide_eq_false hn
      have hn0 : 0 ≤ n := by omega
      go_enter Try.func22, Try.ntmps22
      go_wp2
      go_loopg [3, 4] 65 (fun kq v3 v4 w' => ∃ (ds : List Int) (x : Int), v3 = .string (strOfNums ds) ∧ v4 = .int .i64 x ∧ Aside0 (pascalineref01_Text.Inv kq n x ds) ∧ Aside0 (Below w.heap.size w w'))
      case atStart =>
        refine ⟨[], n, rfl, rfl, ⟨by omega, by omega, 1, by omega, by simp, by omega, by simp, by omega⟩, ⟨Below.refl _ _⟩⟩
      case round =>
        obtain ⟨ds, x, rfl, rfl, HI, HB⟩ := hrel
        have hx0 := HI.out.1
        have hk := HI.out.pos
        obtain ⟨k, rfl⟩ : ∃ k, gk = k + 1 := ⟨gk - 1, by omega⟩
        have hm0 : 0 ≤ x % 10 := by omega
        have hm1 : x % 10 < 10 := by omega
        have hs : (strOfNums ds).size ≤ 1000 := by have := HI.out.2.2; rw [strOfNums_size]; obtain ⟨m, _, _, _, h5, _⟩ := this; omega
        have hs1 : (strOfNums [48 + x % 10]).size ≤ 1 := by rw [strOfNums_size]; simp
        have hcv := pascalineref01_Text.conv wr (48 + x % 10)
        have hxn : x ≤ n := by obtain ⟨m, _, _, _, _, h6⟩ := HI.out.2.2; exact h6
        obtain ⟨hb0, hb1⟩ := hb
        by_cases hz : x / 10 = 0
        · have hzb : (x / 10 == 0) = true := beq_iff_eq.mpr hz
          have HE := Aside0.mk (HI.out.step.1 hz)
          clear hz
          go_wp2
          go_ret
          exact ⟨by rw [← HR.out, HT.out, HE.out, ← pascalineref01_Text.join]; rfl, below_alloc HB.out _⟩
        · have hzb : (x / 10 == 0) = false := beq_eq_false_iff_ne.mpr hz
          have HE := Aside0.mk (HI.out.step.2 hz)
          clear hz
          go_wp2
          go_roundg k
          case measure => omega
          case rel => exact ⟨(48 + x % 10) :: ds, x / 10, by rw [pascalineref01_Text.join], rfl, HE, ⟨below_alloc HB.out _⟩⟩
  · rw [if_neg hb] at h; cases h

end Go.Proofs.Ytmebogkhdbbbbaa.P

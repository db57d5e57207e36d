-- Written by a program of this session (wip/tools/hp.py) out of the translation.
import Derived.Test.YtemkjnjfblliaaaPx0
import Derived.Test.YtemkjnjfblliaaaPx2
import Derived.Test.YtemkjnjfblliaaaPx3
import Derived.Test.YtemkjnjfblliaaaPx5
import Derived.Test.YtemkjnjfblliaaaPx6
import Derived.Test.YtemkjnjfblliaaaPx7
import Derived.Test.YtemkjnjfblliaaaPx8
namespace Go.Proofs.Ytemkjnjfblliaaa.P
open Go.RowKit Go.Proofs.YtemkjnjfblliaaaW.PrintWords Go.Proofs.YtemkjnjfblliaaaW.PrintLast Go.Proofs.YtemkjnjfblliaaaW.PrintMore
attribute [local go_sem] max2_int min2_int max_two min_two max_three min_three max_four min_four   -- for this text's walks alone
set_option linter.unusedVariables false
set_option linter.unusedSimpArgs false

/-! ### pascalinelaw16_RangesMark: function 3 -/
theorem ranges_Mark.wrap_down {i : Int} (h0 : -1000 ≤ i) (h : i ≤ 1000000) : wrap64 (i - 1) = i - 1 := by unfold wrap64; omega
theorem ranges_Mark.wrap_up {i : Int} (h0 : -1000 ≤ i) (h : i ≤ 1000000) : wrap64 (i + 1) = i + 1 := by unfold wrap64; omega
theorem ranges_Mark.ref (k : Nat) (hk : 1 ≤ k) (L : List S29) (at_ pad : Int) (hl : L.length ≤ 1000) : pascalineref16_Mark.f k L at_ pad = some (ranges_Mark.of L at_ pad) := by
  obtain ⟨k, rfl⟩ : ∃ m, k = m + 1 := ⟨k - 1, by omega⟩
  unfold pascalineref16_Mark.f ranges_Mark.of
  simp only [Option.bind_some, List.nil_append, List.length_nil, Nat.zero_add]
  rw [if_pos (by omega)]
  by_cases hz : L = []
  · subst hz
    rfl
  · obtain ⟨m, hn⟩ : ∃ m, L.length = m + 1 := ⟨L.length - 1, by have := List.length_pos_iff.mpr hz; omega⟩
    have e1 : wrap64 (((m + 1 : Nat) : Int) - 1) = (m : Int) := by rw [ranges_Mark.wrap_down (by omega) (by omega)]; omega
    have ht : (L.take m).length = m := by rw [List.length_take]; omega
    simp only [pascalineref16_Mark.j0]
    simp only [e1, hn, ranges_Mark.wrap_down (i := (m : Int)) (by omega) (by omega), Int.toNat_natCast, ht]
    rw [if_pos (by omega), if_pos (by omega), if_pos (by omega)]
    by_cases h1 : at_ ≤ (rd_T29 L (m : Int)).f0
    · rw [if_pos (decide_eq_true h1), if_pos h1, if_pos (by omega), if_pos (by omega), if_pos (by omega)]
      simp only [Option.bind_some, ht]
      by_cases h0 : m = 0
      · subst h0
        rw [if_neg (by omega), if_pos (by omega), if_pos rfl]
        simp
      · rw [if_pos (by omega), if_pos (by omega), if_pos (by omega), if_neg h0]
        by_cases h2 : (rd_T29 (L.take m) ((m : Int) - 1)).f1 = pad
        · rw [if_pos h2, if_pos h2]
        · rw [if_neg h2, if_neg h2, if_pos (by omega)]
    · rw [if_neg (by simpa using h1), if_neg h1, if_pos (by omega), if_pos (by omega), if_pos (by omega)]
      by_cases h2 : (rd_T29 L (m : Int)).f1 = pad
      · rw [if_pos h2, if_pos h2]
      · rw [if_neg h2, if_neg h2, if_pos (by omega)]
theorem ranges_Mark.of_len (L : List S29) (at_ pad : Int) : (ranges_Mark.of L at_ pad).length ≤ L.length + 1 := by
  unfold ranges_Mark.of
  generalize hn : L.length = n
  cases n with
  | zero => simp
  | succ m =>
    dsimp only
    have ht : (L.take m).length = m := by rw [List.length_take]; omega
    by_cases h1 : at_ ≤ (rd_T29 L (m : Int)).f0
    · rw [if_pos h1]
      by_cases h0 : m = 0
      · rw [if_pos h0]; simp
      · rw [if_neg h0]
        by_cases h2 : (rd_T29 (L.take m) ((m : Int) - 1)).f1 = pad
        · rw [if_pos h2]; omega
        · rw [if_neg h2]; simp; omega
    · rw [if_neg h1]
      by_cases h2 : (rd_T29 L (m : Int)).f1 = pad
      · rw [if_pos h2]; omega
      · rw [if_neg h2]; simp; omega
theorem ranges_Mark.same_loop (L : List S29) (hl : L.length ≤ 1000) (d : Nat) : ∀ (k : Nat) (i : Int), 0 ≤ i → i ≤ L.length → (L.length : Int) - i = d → d < k → pascalineref16_Same.l0 k L L i = some true := by
  induction d with
  | zero =>
    intro k i h0 h1 hd hk
    obtain ⟨k, rfl⟩ : ∃ m, k = m + 1 := ⟨k - 1, by omega⟩
    simp only [pascalineref16_Same.l0]; rw [if_neg (by omega)]
  | succ d ih =>
    intro k i h0 h1 hd hk
    obtain ⟨k, rfl⟩ : ∃ m, k = m + 1 := ⟨k - 1, by omega⟩
    simp only [pascalineref16_Same.l0]
    rw [if_pos (by omega), if_pos h0, if_pos (by omega), if_neg (by simp), ranges_Mark.wrap_up (by omega) (by omega)]
    exact ih k (i + 1) (by omega) (by omega) (by omega) (by omega)
theorem ranges_Mark.same_refl (k : Nat) (L : List S29) (hl : L.length ≤ 1000) (hk : L.length < k) : pascalineref16_Same.f k L L = some true := by
  unfold pascalineref16_Same.f
  rw [if_pos rfl]
  exact ranges_Mark.same_loop L hl L.length k 0 (by omega) (by omega) (by omega) hk
theorem ranges_Mark.does2 {g : Nat} {A : Option Addr} {c : Nat} {L : List S29} {w0 w : World} (at_ pad : Int) (h : ranges_Bld w0 w g A c L) (hl : L.length ≤ 1000000) :
    Calls Try.prog 9 #[.pointer (some ⟨g, 0, none⟩), .int .i64 at_, .int .i64 pad] w fun e w' => e = .returned (.tuple #[]) ∧ ∃ A' c', ranges_Bld w0 w' g A' c' (ranges_Mark.of L at_ pad) ∧ Kept w w' (fun k => k = g ∨ some k = (Value.slice A L.length c).ownBlock) := by
  refine (ranges_Mark.calls g A c L at_ pad w0 w h.1 h.2.2.2 h.2.1 h.2.2.1 hl).mono ?_
  rintro e w' ⟨rfl, A', c', h1, h2, h3, h4⟩
  exact ⟨rfl, A', c', ⟨h1, h2, h3, h.2.2.2⟩, h4⟩
def pascalinelaw16_RangesMark.f (k : Nat) (l0 : List S29) : Option Bool := (pascalinelaw16_few.f k l0).bind fun b => if b = true then (if 200 ≤ k ∧ l0.length ≤ 100 then some true else none) else some true
/-- What holds at the loop's head: the builder and the list that is wanted hold the same segments, and lie apart. -/
def pascalinelaw16_RangesMark.At (w wr : World) (g : Nat) (v4 : Value) (L : List S29) : Prop :=
  ∃ A c, ranges_Bld w wr g A c L ∧ Kd.R k29 29 wr w.heap.size (fun k => k ≠ g ∧ some k ≠ (Value.slice A L.length c).ownBlock) v4 L
theorem pascalinelaw16_RangesMark.lst {w wr : World} {g : Nat} {A : Option Addr} {c : Nat} {v4 : Value} {L : List S29} (hv : Kd.R k29 29 wr w.heap.size (fun k => k ≠ g ∧ some k ≠ (Value.slice A L.length c).ownBlock) v4 L) : ∃ A4 c4, v4 = .slice A4 L.length c4 ∧ L.length ≤ c4 ∧ Kd.C k29 wr A4 L.length L := by
  obtain ⟨A4, c4, rfl⟩ := Kd.R_slice hv
  exact ⟨A4, c4, rfl, (Kd.R_reads' hv).2.1, (Kd.R_reads' hv).2.2⟩
theorem pascalinelaw16_RangesMark.next {w W W1 : World} {g : Nat} {A : Option Addr} {c : Nat} {L : List S29} {v : Value} (hb : ranges_Bld w W g A c L) (hd : Below W.heap.size W W1) (hr : Kd.R k29 29 W1 W.heap.size (fun _ => True) v L) : pascalinelaw16_RangesMark.At w W1 g v L := by
  refine ⟨A, c, hb.below hd, ?_⟩
  refine Kd.R_lower (Kd.R_mono (Kd.R_new' (Kd.R_newB hr hb.1) (u := .slice A L.length c) (Kd.R_lt hb.2.1)) (fun k hk => ⟨hk.1.2, hk.2⟩)) ?_
  exact hb.2.2.1.size
theorem pascalinelaw16_RangesMark.At.below {w W W1 : World} {g : Nat} {L : List S29} {v : Value} (h : pascalinelaw16_RangesMark.At w W g v L) (hd : Below W.heap.size W W1) : pascalinelaw16_RangesMark.At w W1 g v L := by
  obtain ⟨A, c, h1, h2⟩ := h
  exact ⟨A, c, h1.below hd, Kd.R_below h2 hd⟩
theorem pascalinelaw16_RangesMark.At.reads {w W : World} {g : Nat} {L : List S29} {A6 : Option Addr} {n c6 : Nat} (h : pascalinelaw16_RangesMark.At w W g (.slice A6 n c6) L) : L.length ≤ c6 ∧ Kd.C k29 W A6 L.length L := by
  obtain ⟨A, c, h1, h2⟩ := h
  have := Kd.R_reads' h2
  exact ⟨by omega, this.2.2⟩
set_option maxHeartbeats 4000000 in
set_option maxRecDepth 100000 in
theorem pascalinelaw16_RangesMark.calls (k : Nat) (A0 : Option Addr) (c0 : Nat) (l0 : List S29) (r : Bool) (w : World) (hr0 : Kd.C k29 w A0 l0.length l0) (hc0 : l0.length ≤ c0) (h : pascalinelaw16_RangesMark.f k l0 = some r) :
    Calls Try.prog 3 #[.slice A0 l0.length c0] w fun e w' => e = .returned (.bool r) ∧ Below w.heap.size w w' := by
  unfold pascalinelaw16_RangesMark.f at h
  cases hb : pascalinelaw16_few.f k l0 with
  | none => rw [hb] at h; exact absurd h (by simp)
  | some b =>
    rw [hb] at h
    simp only [Option.bind_some] at h
    have HF := Aside0.mk hb
    have HR0 := Aside0.mk hr0
    have HC0 := Aside0.mk hc0
    clear hb hr0 hc0
    cases b with
    | false =>
      obtain rfl : r = true := by simpa using h.symm
      clear h
      go_enter Try.func3, Try.ntmps3
      go_wp2_with (first
        | (go_at_call 7; ((with_reducible refine (pascalinelaw16_awake.calls true _ rfl).mono ?_)); rintro e w1 ⟨rfl, hb⟩; have HB1 := Aside0.mk hb; clear hb)
        | (go_at_call 8; ((with_reducible refine (pascalinelaw16_few.calls k A0 c0 l0 false _ (Kd.C_below HR0.out HB1.out) HC0.out HF.out).mono ?_)); rintro e w2 ⟨rfl, hb⟩; have HB2 := Aside0.mk (below_step HB1.out hb); clear hb))
      go_ret
      exact ⟨rfl, HB2.out⟩
    | true =>
      rw [if_pos rfl] at h
      by_cases hkl : 200 ≤ k ∧ l0.length ≤ 100
      · rw [if_pos hkl] at h
        obtain rfl : r = true := by simpa using h.symm
        obtain ⟨hk, hl⟩ := hkl
        have HK := Aside0.mk hk
        clear h hk
        go_enter Try.func3, Try.ntmps3
        go_wp2_with (first
          | (go_at_call 7; ((with_reducible refine (pascalinelaw16_awake.calls true _ rfl).mono ?_)); rintro e w1 ⟨rfl, hb⟩; have HB1 := Aside0.mk hb; clear hb)
          | (go_at_call 8; ((with_reducible refine (pascalinelaw16_few.calls k A0 c0 l0 true _ (Kd.C_below HR0.out HB1.out) HC0.out HF.out).mono ?_)); rintro e w2 ⟨rfl, hb⟩; have HB2 := Aside0.mk (below_step HB1.out hb); clear hb HB1))
        go_wp2
        go_loopg [4, 5] (l0.length + 1) (fun kx v4 v5 wr => ∃ (L : List S29) (i : Nat), v5 = .int .i64 i ∧ Aside0 (i + kx = l0.length + 1 ∧ i ≤ l0.length ∧ L.length ≤ i) ∧ Aside0 (pascalinelaw16_RangesMark.At w wr w2.heap.size v4 L))
        case atStart => exact ⟨[], 0, rfl, ⟨⟨by omega, by omega, by simp⟩⟩, ⟨⟨none, 0, ranges_Bld.new w w2 HB2.out, Kd.R_nil _ _ _ _ _⟩⟩⟩
        case round =>
          obtain ⟨L, i, rfl, I, HA⟩ := hrel
          by_cases hi : i < l0.length
          · obtain ⟨ad, e, hx0, hx1⟩ := at_T29 HR0.out (i : Int) (by omega) (by omega)
            cases e
            rw [Int.toNat_natCast] at hx0 hx1
            have HX := Aside0.mk (And.intro hx0 hx1)
            obtain ⟨A, c, hbl, hwr⟩ := HA.out
            obtain ⟨A4, c4, rfl, hc4, hC4⟩ := pascalinelaw16_RangesMark.lst hwr
            replace hx0 := (hbl.2.2.1.cell (World.block_lt_of_cell? w _ hx0)).trans hx0
            replace hx1 := (hbl.2.2.1.cell (World.block_lt_of_cell? w _ hx1)).trans hx1
            have hx0d : wr.drew.cell? (ad.add (i * 2)) = some (.int .i64 (rd_T29 l0 (i : Int)).f0) := hx0
            have hx1d : wr.drew.cell? ⟨(ad.add (i * 2)).block, (ad.add (i * 2)).off + 1, none⟩ = some (.int .i64 (rd_T29 l0 (i : Int)).f1) := hx1
            have HBL := Aside0.mk (hbl.below (below_drew (Below.refl _ _)))
            have HWR := Aside0.mk (Kd.R_drew hwr)
            clear hbl hwr hC4 hc4
            have hi1 : (i : Int) < (l0.length : Int) := by omega
            have hi0 : (0 : Int) ≤ (i : Int) := by omega
            go_wp2
            go_still_tail 10, (by kernel_rfl)
            change wpList _ _ _ _ _ wr.drew
            generalize wr.drew = wr1 at HBL HWR hx0d hx1d ⊢
            clear hx0 hx1
            go_wp2_with (go_at_call 9; ((with_reducible refine (ranges_Mark.does2 _ _ HBL.out (by have := I.out; omega)).mono ?_)); rintro e wm ⟨rfl, A5, c5, hb, hk⟩; have HK5 := Aside0.mk hk; have HB5 := Aside0.mk hb; clear hb hk)
            have HW5 := Aside0.mk (Kd.R_drew (Kd.R_step HWR.out (w1 := wm) (fun q hq hlt => HK5.out.2 q hlt (by rintro (h | h); exact hq.1 h; exact hq.2 h))))
            have hx0e : wm.drew.cell? (ad.add (i * 2)) = some (.int .i64 (rd_T29 l0 (i : Int)).f0) := (HB5.out.2.2.1.cell (World.block_lt_of_cell? w _ HX.out.1)).trans HX.out.1
            have hx1e : wm.drew.cell? ⟨(ad.add (i * 2)).block, (ad.add (i * 2)).off + 1, none⟩ = some (.int .i64 (rd_T29 l0 (i : Int)).f1) := (HB5.out.2.2.1.cell (World.block_lt_of_cell? w _ HX.out.2)).trans HX.out.2
            have HB6 := Aside0.mk (HB5.out.below (below_drew (Below.refl _ _)))
            have hx0f : wm.cell? (ad.add (i * 2)) = some (.int .i64 (rd_T29 l0 (i : Int)).f0) := hx0e
            have hx1f : wm.cell? ⟨(ad.add (i * 2)).block, (ad.add (i * 2)).off + 1, none⟩ = some (.int .i64 (rd_T29 l0 (i : Int)).f1) := hx1e
            clear HBL HWR hx0d hx1d HK5 HB5
            go_still_tail 11, (by kernel_rfl)
            change wpList _ _ _ _ _ wm.drew
            generalize wm.drew = wm1 at HB6 HW5 hx0e hx1e ⊢
            clear hx0f hx1f
            have hl5 := ranges_Mark.of_len L (rd_T29 l0 (i : Int)).f0 (rd_T29 l0 (i : Int)).f1
            generalize hL' : ranges_Mark.of L (rd_T29 l0 (i : Int)).f0 (rd_T29 l0 (i : Int)).f1 = L' at HB6 hl5
            have HL5 := Aside0.mk hl5
            have HL' := Aside0.mk hL'
            clear hl5 hL'
            have HR5 := Aside0.mk ((ranges_Mark.ref 5 (by omega) L (rd_T29 l0 (i : Int)).f0 (rd_T29 l0 (i : Int)).f1 (by have := I.out; omega)).trans (congrArg some HL'.out))
            go_wp2_with (first
              | (go_at_call 10; ((with_reducible refine (pascalineref16_Mark.calls 5 A4 c4 L _ _ L' _ (Kd.R_reads' HW5.out).2.2 (Kd.R_reads' HW5.out).2.1 HR5.out).mono ?_)); rintro e wn ⟨v6, rfl, ho, hb⟩; obtain ⟨A6, c6, rfl⟩ := Kd.R_slice ho; have HA6 := Aside0.mk (pascalinelaw16_RangesMark.next HB6.out hb ho); have HB7 := Aside0.mk (HB6.out.below hb); clear hb ho HB6 HW5 hx0e hx1e)
              | (go_at_call 12; ((with_reducible refine (ranges_List.calls HB7.out (by have := I.out; have := HL5.out; omega)).mono ?_)); rintro e wo ⟨v8, rfl, ho, hb⟩; obtain ⟨A8, c8, rfl⟩ := Kd.R_slice ho; have HA8 := Aside0.mk (HA6.out.below hb); have HO8 := Aside0.mk ho; clear hb ho HA6 HB7)
              | (go_at_call 11; ((with_reducible refine (pascalineref16_Same.calls 2000 A8 c8 L' A6 c6 L' true _ (Kd.R_reads' HO8.out).2.2 (Kd.R_reads' HO8.out).2.1 HA8.out.reads.2 HA8.out.reads.1 (ranges_Mark.same_refl 2000 L' (by have := I.out; have := HL5.out; omega) (by have := I.out; have := HL5.out; omega))).mono ?_)); rintro e wp ⟨rfl, hd⟩; have HA9 := Aside0.mk (HA8.out.below hd.below); clear hd HA8 HO8))
            go_roundg (l0.length - i)
            case measure => have := I.out; omega
            case rel => exact ⟨L', i + 1, by first | rfl | (simp; done), ⟨by have := I.out; have := HL5.out; omega⟩, HA9⟩
          · have hi1 : decide ((i : Int) < (l0.length : Int)) = false := decide_eq_false (by omega)
            go_wp2
            go_ret
            obtain ⟨A, c, h1, _⟩ := HA.out
            exact ⟨rfl, h1.2.2.1⟩
      · rw [if_neg hkl] at h; exact absurd h (by simp)

end Go.Proofs.Ytemkjnjfblliaaa.P

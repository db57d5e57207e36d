-- Written by a program of this session (wip/tools/hp.py) out of the translation.
import Derived.Test.YtcpiaahkjgdliaaPx0
import Derived.Test.YtcpiaahkjgdliaaPx1
import Derived.Test.YtcpiaahkjgdliaaPx2
import Derived.Test.YtcpiaahkjgdliaaPx4
import Derived.Test.YtcpiaahkjgdliaaPx6
import Derived.Test.YtcpiaahkjgdliaaPx7
namespace Go.Proofs.Ytcpiaahkjgdliaa.P
open Go.RowKit Go.Proofs.YtcpiaahkjgdliaaW.PrintWords Go.Proofs.YtcpiaahkjgdliaaW.PrintLast Go.Proofs.YtcpiaahkjgdliaaW.PrintMore
attribute [local go_sem] max2_int min2_int max_two min_two max_three min_three max_four min_four   -- for this text's walks alone
set_option linter.unusedVariables false
set_option linter.unusedSimpArgs false

/-! ### pascalinelaw07_PlaceLines: function 5 -/
structure place_RL (s : ByteArray) (n : Nat) (acc : List ByteArray) (from_ : Int) : Prop where
  len : acc.length + 1 = (place_sts s n).length
  last : from_ = rd (place_sts s n) (acc.length : Int)
  each : ∀ j : Nat, j < acc.length → rdOf ByteArray.empty acc (j : Int) = s.extract (rd (place_sts s n) (j : Int)).toNat (rd (place_sts s n) ((j : Int) + 1) - 1).toNat
theorem place_rdOf_left (L K : List ByteArray) (i : Nat) (h : i < L.length) : rdOf ByteArray.empty (L ++ K) (i : Int) = rdOf ByteArray.empty L (i : Int) := by
  unfold rdOf; rw [Int.toNat_natCast]; simp [List.getD_eq_getElem?_getD, List.getElem?_append_left h]
theorem place_rdOf_last (L : List ByteArray) (x : ByteArray) (i : Nat) (h : i = L.length) : rdOf ByteArray.empty (L ++ [x]) (i : Int) = x := by
  subst h; unfold rdOf; rw [Int.toNat_natCast]; simp [List.getD_eq_getElem?_getD]
theorem place_RL.step {s : ByteArray} {n : Nat} {acc : List ByteArray} {from_ : Int} (h : place_RL s n acc from_) (hb : bt s (n : Int) = 10) : place_RL s (n + 1) (acc ++ [s.extract from_.toNat n]) ((n : Int) + 1) := by
  have hs : place_sts s (n + 1) = place_sts s n ++ [(n : Int) + 1] := by rw [place_sts, if_pos hb]
  have hl := h.len
  refine ⟨by rw [hs]; simp; omega, ?_, fun j hj => ?_⟩
  · rw [hs, place_rd_last _ _ _ (by simp; omega)]
  · rw [List.length_append, List.length_singleton] at hj
    by_cases e : j = acc.length
    · rw [place_rdOf_last _ _ _ e, hs, place_rd_left _ _ _ (by omega) (by omega), place_rd_last _ _ _ (by omega), e, ← h.last]
      congr 1; omega
    · rw [place_rdOf_left _ _ _ (by omega), hs, place_rd_left _ _ _ (by omega) (by omega), place_rd_left _ _ _ (by omega) (by omega)]
      exact h.each j (by omega)
theorem place_RL.skip {s : ByteArray} {n : Nat} {acc : List ByteArray} {from_ : Int} (h : place_RL s n acc from_) (hb : bt s (n : Int) ≠ 10) : place_RL s (n + 1) acc from_ := by
  have hs : place_sts s (n + 1) = place_sts s n := by rw [place_sts, if_neg hb]
  exact ⟨by rw [hs]; exact h.len, by rw [hs]; exact h.last, by rw [hs]; exact h.each⟩
theorem place_wrap {i : Int} (h0 : -1000 ≤ i) (h : i ≤ 10000000) : wrap64 (i + 1) = i + 1 := by unfold wrap64; omega
/-- What the lines are. -/
def place_AllLines (s : ByteArray) (R : List ByteArray) : Prop := R.length = (place_sts s s.size).length ∧ ∀ j : Nat, j < R.length → rdOf ByteArray.empty R (j : Int) = place_linef s (place_sts s s.size) ((j : Int) + 1)
theorem place_ref_loop (s : ByteArray) (hs : s.size ≤ 1000000) (d : Nat) : ∀ (k n : Nat) (acc : List ByteArray) (from_ : Int), n ≤ s.size → s.size - n = d → d < k → place_RL s n acc from_ →
    ∃ R, pascalineref07_Lines.l0 k s acc from_ (n : Int) = some R ∧ place_AllLines s R := by
  induction d with
  | zero =>
    intro k n acc from_ hn hd hk h
    obtain ⟨k, rfl⟩ : ∃ m, k = m + 1 := ⟨k - 1, by omega⟩
    obtain rfl : n = s.size := by omega
    have g := (place_sts_good s hs s.size (Nat.le_refl _)).1
    have hl := h.len
    have hle := place_sts_len s s.size
    have hf := g (acc.length : Int) (by omega) (by omega)
    rw [← h.last] at hf
    refine ⟨acc ++ [s.extract from_.toNat s.size], ?_, by simp; omega, fun j hj => ?_⟩
    · simp only [pascalineref07_Lines.l0]
      rw [if_neg (by omega), if_pos (by omega), if_pos (by omega), if_pos (by omega)]
    · rw [List.length_append, List.length_singleton] at hj
      unfold place_linef
      rw [if_neg (by omega), show ((j : Int) + 1 - 1) = (j : Int) by omega]
      unfold place_endf
      by_cases e : j = acc.length
      · rw [place_rdOf_last _ _ _ e, if_neg (by omega), e, ← h.last]
        congr 1
      · rw [place_rdOf_left _ _ _ (by omega), if_pos (by omega)]
        exact h.each j (by omega)
  | succ d ih =>
    intro k n acc from_ hn hd hk h
    obtain ⟨k, rfl⟩ : ∃ m, k = m + 1 := ⟨k - 1, by omega⟩
    have g := (place_sts_good s hs n hn).1
    have hl := h.len
    have hle := place_sts_len s n
    have hf := g (acc.length : Int) (by omega) (by omega)
    rw [← h.last] at hf
    simp only [pascalineref07_Lines.l0]
    rw [if_pos (by omega), if_pos (by omega), place_wrap (by omega) (by omega)]
    by_cases hb : bt s (n : Int) = 10
    · rw [if_pos hb, if_pos (by omega), if_pos (by omega), if_pos (by omega), if_pos (by omega), Int.toNat_natCast, show ((n : Int) + 1) = ((n + 1 : Nat) : Int) by omega]
      have hst := h.step hb
      rw [show ((n : Int) + 1) = ((n + 1 : Nat) : Int) by omega] at hst
      exact ih k (n + 1) _ _ (by omega) (by omega) (by omega) hst
    · rw [if_neg hb, show ((n : Int) + 1) = ((n + 1 : Nat) : Int) by omega]
      exact ih k (n + 1) _ _ (by omega) (by omega) (by omega) (h.skip hb)
theorem place_ref_lines (s : ByteArray) (hs : s.size ≤ 1000000) (k : Nat) (hk : s.size < k) : ∃ R, pascalineref07_Lines.f k s = some R ∧ place_AllLines s R := by
  unfold pascalineref07_Lines.f
  exact place_ref_loop s hs s.size k 0 [] 0 (by omega) (by omega) hk ⟨rfl, rfl, fun j hj => by simp at hj⟩
def pascalinelaw07_PlaceLines.f (k : Nat) (a0 : ByteArray) (a1 : Int) : Option Bool := if 3000 ≤ k then some true else none
theorem place_Lines_finds {w : World} {R : List ByteArray} {A : Option Addr} {n c : Nat} {B : Nat} (h : Kd.R Kd.string 9 w B (fun _ => True) (.slice A n c) R) {j : Nat} (hj : j < R.length) : ∃ ad, A = some ad ∧ w.cell? (ad.add j) = some (.string (rdOf ByteArray.empty R (j : Int))) := by
  obtain ⟨ad, e, hx⟩ := Kd.at_string (Kd.R_reads' h).2.2 (j : Int) (by omega) (by omega)
  rw [Int.toNat_natCast] at hx
  exact ⟨ad, e, hx⟩
set_option maxHeartbeats 4000000 in
set_option maxRecDepth 100000 in
theorem pascalinelaw07_PlaceLines.calls (k : Nat) (s : ByteArray) (n : Int) (r : Bool) (w : World) (h : pascalinelaw07_PlaceLines.f k s n = some r) : Calls Try.prog 5 #[.string s, .int .i64 n] w fun e w' => e = .returned (.bool r) ∧ Below w.heap.size w w' := by
  unfold pascalinelaw07_PlaceLines.f at h
  by_cases hk : 3000 ≤ k
  · rw [if_pos hk] at h
    obtain rfl : r = true := by injection h with h; exact h.symm
    clear h
    by_cases hs : 2000 < (s.size : Int)
    · clear hk
      go_enter Try.func5, Try.ntmps5
      go_wp2_with (go_at_call 7; ((with_reducible refine (pascalinelaw07_awake.calls true _ rfl).mono ?_)); rintro e w1 ⟨rfl, hb⟩; have HB1 := Aside0.mk hb; clear hb)
      go_ret
      exact ⟨rfl, HB1.out⟩
    · have hs2 : s.size ≤ 2000 := by omega
      have HG := Aside0.mk (place_good s (by omega))
      obtain ⟨R, hR, hRl, hRe⟩ := place_ref_lines s (by omega) k (by omega)
      have hs3 : decide (2000 < (s.size : Int)) = false := decide_eq_false hs
      clear hs hk
      generalize hL : place_sts s s.size = L at HG hRl hRe
      have HL := Aside0.mk hL
      have HR := Aside0.mk hR
      have HRL := Aside0.mk hRl
      have HRE := Aside0.mk hRe
      clear hL hR hRl hRe
      go_enter Try.func5, Try.ntmps5
      go_wp2_with (first
        | (go_at_call 7; ((with_reducible refine (pascalinelaw07_awake.calls true _ rfl).mono ?_)); rintro e w1 ⟨rfl, hb⟩; have HB1 := Aside0.mk hb; clear hb)
        | (go_at_call 8; ((with_reducible refine (place_New.calls s _ (by omega)).mono ?_)); rintro e w2 ⟨g, rfl, hI, hb⟩; rw [HL.out] at hI; have HI := Aside0.mk hI; have HB2 := Aside0.mk (below_step HB1.out hb); clear hI hb HB1)
        | (go_at_call 14; ((with_reducible refine (pascalineref07_Lines.calls k s R _ HR.out).mono ?_)); rintro e w3 ⟨v3, rfl, ho, hb⟩; obtain ⟨A3, c3, rfl⟩ := Kd.R_slice ho; rw [HRL.out] at ho ⊢; have HO := Aside0.mk ho; have HI3 := Aside0.mk (HI.out.below hb); have HB3 := Aside0.mk (below_step HB2.out hb); clear ho hb HI HB2)
        | (go_at_call 13; ((with_reducible refine (place_Lines.calls g s L _ HI3.out).mono ?_)); rintro e w4 ⟨rfl, hb⟩; have HI4 := Aside0.mk (HI3.out.below hb); have HO4 := Aside0.mk (Kd.R_below HO.out hb); have HB4 := Aside0.mk (below_step HB3.out hb); clear hb HI3 HB3 HO)
        | (go_at_call 15; ((with_reducible refine (place_Len.calls g s L _ HI4.out).mono ?_)); rintro e w5 ⟨rfl, hb⟩; have HI5 := Aside0.mk (HI4.out.below hb); have HO5 := Aside0.mk (Kd.R_below HO4.out hb); have HB5 := Aside0.mk (below_step HB4.out hb); clear hb HI4 HB4 HO4))
      have HLL := Aside0.mk HG.out.len
      go_loopg [7] (L.length + 1) (fun kx v7 wr => ∃ i : Nat, v7 = .int .i64 i ∧ Aside0 (i + kx = L.length + 1 ∧ i ≤ L.length) ∧ Aside0 (place_Is wr g s L ∧ Below w.heap.size w wr ∧ Kd.R Kd.string 9 wr w2.heap.size (fun _ => True) (.slice A3 L.length c3) R))
      case atStart => exact ⟨0, rfl, ⟨⟨by omega, by omega⟩⟩, ⟨⟨HI5.out, HB5.out, HO5.out⟩⟩⟩
      case round =>
        clear HI5 HB5 HO5
        obtain ⟨i, rfl, I, HW⟩ := hrel
        by_cases hi : i < L.length
        · obtain ⟨ad, e, hx⟩ := place_Lines_finds HW.out.2.2 (j := i) (by have := HRL.out; omega)
          cases e
          rw [HRE.out i (by have := HRL.out; omega)] at hx
          have HX := Aside0.mk hx
          have hi1 : (i : Int) < (L.length : Int) := by omega
          have hi0 : (0 : Int) ≤ (i : Int) := by omega
          have hi2 : (i : Int) ≤ 2000000 := by have := HLL.out; omega
          have hw1 : IntKind.i64.wrap ((i : Int) + 1) = (i : Int) + 1 := IntWalk.i64_in _ (by omega)
          go_wp2
          go_region_held3 (fun w' => w'.cell? (ad.add i) = some (.string (place_linef s L ((i : Int) + 1)))) (first | exact hx | exact hxe)
            (first | (go_at_call 16; ((with_reducible refine (place_Line.calls g s L ((i : Int) + 1) _ (HW.out.1.below (below_drew (Below.refl _ _))) HG.out).mono ?_)); rintro e we ⟨rfl, hb⟩; have hB := below_step (below_drew (Below.refl wr.heap.size wr)) hb; have hxe := (hB.cell (World.block_lt_of_cell? wr _ HX.out)).trans HX.out; have HB := Aside0.mk hB; clear hb hB))
          have HW2 := Aside0.mk (show place_Is we g s L ∧ Below w.heap.size w we ∧ Kd.R Kd.string 9 we w2.heap.size (fun _ => True) (.slice (some ad) L.length c3) R from ⟨HW.out.1.below HB.out, below_step HW.out.2.1 HB.out, Kd.R_below HW.out.2.2 HB.out⟩)
          clear hx hxe HX
          go_wp2
          go_roundg (L.length - i)
          case measure => have := I.out; omega
          case rel => exact ⟨i + 1, by first | rfl | (simp; done), ⟨by have := I.out; omega⟩, HW2⟩
        · have hi1 : decide ((i : Int) < (L.length : Int)) = false := decide_eq_false (by omega)
          by_cases hn : 1 ≤ n ∧ n ≤ (L.length : Int)
          · obtain ⟨hn1, hn2⟩ := hn
            go_wp2
            go_ret
            exact ⟨rfl, HW.out.2.1⟩
          · have hlf : place_linef s L n = ⟨#[]⟩ := by unfold place_linef; rw [if_pos (by omega)]
            have HLF := Aside0.mk hlf
            clear hlf
            by_cases hn1 : 1 ≤ n
            · have hn2 : decide (n ≤ (L.length : Int)) = false := decide_eq_false (by omega)
              clear hn
              go_wp2_with (go_at_call 16; ((with_reducible refine (place_Line.calls g s L n _ HW.out.1 HG.out).mono ?_)); rintro e we ⟨rfl, hb⟩; rw [HLF.out]; have HB := Aside0.mk (below_step HW.out.2.1 hb); clear hb)
              go_ret
              exact ⟨rfl, HB.out⟩
            · have hn2 : decide (1 ≤ n) = false := decide_eq_false hn1
              clear hn
              go_wp2_with (go_at_call 16; ((with_reducible refine (place_Line.calls g s L n _ HW.out.1 HG.out).mono ?_)); rintro e we ⟨rfl, hb⟩; rw [HLF.out]; have HB := Aside0.mk (below_step HW.out.2.1 hb); clear hb)
              go_ret
              exact ⟨rfl, HB.out⟩
  · rw [if_neg hk] at h; exact absurd h (by simp)

end Go.Proofs.Ytcpiaahkjgdliaa.P

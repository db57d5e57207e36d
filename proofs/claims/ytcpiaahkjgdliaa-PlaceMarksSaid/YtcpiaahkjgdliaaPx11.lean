-- Written by a program of this session (wip/tools/hp.py) out of the translation.
import Derived.Test.YtcpiaahkjgdliaaPx0
import Derived.Test.YtcpiaahkjgdliaaPx1
import Derived.Test.YtcpiaahkjgdliaaPx2
import Derived.Test.YtcpiaahkjgdliaaPx3
import Derived.Test.YtcpiaahkjgdliaaPx4
import Derived.Test.YtcpiaahkjgdliaaPx5
import Derived.Test.YtcpiaahkjgdliaaPx8
import Derived.Test.YtcpiaahkjgdliaaPx9
import Derived.Test.YtcpiaahkjgdliaaPx10
namespace Go.Proofs.Ytcpiaahkjgdliaa.P
open Go.RowKit Go.Proofs.YtcpiaahkjgdliaaW.PrintWords Go.Proofs.YtcpiaahkjgdliaaW.PrintLast Go.Proofs.YtcpiaahkjgdliaaW.PrintMore
attribute [local go_sem] max2_int min2_int max_two min_two max_three min_three max_four min_four   -- for this text's walks alone
set_option linter.unusedVariables false
set_option linter.unusedSimpArgs false

/-! ### pascalinelaw07_PlaceFinds: function 3 -/
theorem place_prefix (s : ByteArray) (n d : Nat) : ∃ K : List Int, place_sts s (n + d) = place_sts s n ++ K ∧ ∀ x ∈ K, (n : Int) < x := by
  induction d with
  | zero => exact ⟨[], by simp, by simp⟩
  | succ d ih =>
    obtain ⟨K, h1, h2⟩ := ih
    show ∃ K, place_sts s (n + d + 1) = _ ∧ _
    rw [place_sts]
    by_cases h : bt s ((n + d : Nat) : Int) = 10
    · rw [if_pos h, h1]
      refine ⟨K ++ [((n + d : Nat) : Int) + 1], by rw [List.append_assoc], fun x hx => ?_⟩
      rw [List.mem_append, List.mem_singleton] at hx
      rcases hx with hx | rfl
      · exact h2 x hx
      · omega
    · rw [if_neg h]; exact ⟨K, h1, h2⟩
theorem place_rd_right (L K : List Int) (i : Int) (h0 : (L.length : Int) ≤ i) (h1 : i < ((L ++ K).length : Int)) : rd (L ++ K) i ∈ K := by
  rw [List.length_append] at h1
  unfold rd
  rw [List.getD_eq_getElem?_getD, List.getElem?_append_right (by omega), List.getElem?_eq_getElem (by omega)]
  exact List.getElem_mem _
theorem place_mono {s : ByteArray} {L : List Int} (hG : place_Good s L) (d : Nat) : ∀ i j : Int, 0 ≤ i → j < L.length → j - i = d → rd L i ≤ rd L j := by
  induction d with
  | zero => intro i j _ _ hd; rw [show i = j by omega]; exact Int.le_refl _
  | succ d ih =>
    intro i j h0 h1 hd
    have a := ih i (j - 1) h0 (by omega) (by omega)
    have b := hG.rise (j - 1) (by omega) (by omega)
    rw [show j - 1 + 1 = j by omega] at b
    omega
/-- The line of a byte is the only one that begins there or before, and behind which none does. -/
theorem place_line_one (s : ByteArray) (L : List Int) (hG : place_Good s L) (hz : rd L 0 = 0) (off : Int) (m : Nat) (hm : m < L.length) (h1 : rd L (m : Int) ≤ place_held s off) (h2 : m + 1 < L.length → place_held s off < rd L ((m + 1 : Nat) : Int)) : place_line s L off = m := by
  obtain ⟨g1, g2, g3⟩ := place_line_spec s L off hG hz
  rcases Nat.lt_trichotomy (place_line s L off) m with c | c | c
  · have a := g3 (by omega)
    have b := place_mono hG (m - (place_line s L off + 1)) ((place_line s L off + 1 : Nat) : Int) (m : Int) (by omega) (by omega) (by omega)
    omega
  · exact c
  · have a := h2 (by omega)
    have b := place_mono hG (place_line s L off - (m + 1)) ((m + 1 : Nat) : Int) ((place_line s L off : Nat) : Int) (by omega) (by omega) (by omega)
    omega
theorem place_at_line (s : ByteArray) (hs : s.size ≤ 1000000) (off : Int) (n : Nat) (hn : (n : Int) = place_held s off) (hns : n ≤ s.size) : place_line s (place_sts s s.size) off + 1 = (place_sts s n).length ∧ rd (place_sts s s.size) ((place_line s (place_sts s s.size) off : Nat) : Int) = rd (place_sts s n) (((place_sts s n).length : Int) - 1) := by
  have hG := place_good s hs
  obtain ⟨K, h1, h2⟩ := place_prefix s n (s.size - n)
  rw [show n + (s.size - n) = s.size by omega] at h1
  have hl := place_sts_len s n
  have hg := (place_sts_good s hs n hns).1 (((place_sts s n).length - 1 : Nat) : Int) (by omega) (by omega)
  have e : rd (place_sts s s.size) (((place_sts s n).length - 1 : Nat) : Int) = rd (place_sts s n) (((place_sts s n).length - 1 : Nat) : Int) := by rw [h1, place_rd_left _ _ _ (by omega) (by omega)]
  have hone := place_line_one s (place_sts s s.size) hG (place_sts_zero s s.size) off ((place_sts s n).length - 1) (by rw [h1, List.length_append]; omega) (by rw [e, ← hn]; exact hg.2) (fun h => by
    rw [← hn]
    have hx := place_rd_right (place_sts s n) K (((place_sts s n).length - 1 + 1 : Nat) : Int) (by omega) (by rw [← h1]; omega)
    rw [← h1] at hx
    exact h2 _ hx)
  refine ⟨by omega, ?_⟩
  rw [hone, e]
  congr 1
  omega
theorem place_ref_at_loop (s : ByteArray) (hs : s.size ≤ 1000000) (off : Int) (N : Nat) (hN : (N : Int) = place_held s off) (hNs : N ≤ s.size) (d : Nat) : ∀ (k n : Nat), n ≤ N → N - n = d → 2 * d + 1 < k →
    pascalineref07_At.l0 k s off ((place_sts s n).length : Int) ((n : Int) - rd (place_sts s n) (((place_sts s n).length : Int) - 1) + 1) (n : Int) = some (((place_sts s N).length : Int), (N : Int) - rd (place_sts s N) (((place_sts s N).length : Int) - 1) + 1) := by
  induction d with
  | zero =>
    intro k n hn hd hk
    obtain ⟨k, rfl⟩ : ∃ m, k = m + 2 := ⟨k - 2, by omega⟩
    obtain rfl : n = N := by omega
    have hh : ¬ ((n : Int) < off ∧ (n : Int) < (s.size : Int)) := by
      rw [hN]; unfold place_held; split
      · omega
      · split <;> omega
    simp only [pascalineref07_At.l0]
    by_cases h1 : (n : Int) < off
    · rw [if_pos h1]
      simp only [pascalineref07_At.j1]
      rw [if_neg (by simp; omega)]
    · rw [if_neg h1]
      simp only [pascalineref07_At.j1]
      rw [if_neg (by simp)]
  | succ d ih =>
    intro k n hn hd hk
    obtain ⟨k, rfl⟩ : ∃ m, k = m + 2 := ⟨k - 2, by omega⟩
    have hh : (n : Int) < off := by
      have : (N : Int) = place_held s off := hN
      unfold place_held at this; split at this
      · omega
      · split at this <;> omega
    have hl := place_sts_len s n
    have hg := (place_sts_good s hs n (by omega)).1 (((place_sts s n).length : Int) - 1) (by omega) (by omega)
    have hnx := ih k (n + 1) (by omega) (by omega) (by omega)
    simp only [pascalineref07_At.l0]
    rw [if_pos hh]
    simp only [pascalineref07_At.j1]
    rw [if_pos (by simp; omega), if_pos (by omega), if_pos (by omega), place_wrap (i := (n : Int)) (by omega) (by omega), place_wrap (by omega) (by omega), place_wrap (by omega) (by omega)]
    by_cases hb : bt s (n : Int) = 10
    · rw [if_pos hb]
      have e : place_sts s (n + 1) = place_sts s n ++ [(n : Int) + 1] := by rw [place_sts, if_pos hb]
      rw [e, List.length_append, List.length_singleton, place_rd_last _ _ _ (by omega), show ((n + 1 : Nat) : Int) = (n : Int) + 1 by omega, show (((place_sts s n).length + 1 : Nat) : Int) = ((place_sts s n).length : Int) + 1 by omega, show ((n : Int) + 1 - ((n : Int) + 1) + 1) = 1 by omega] at hnx
      exact hnx
    · rw [if_neg hb]
      have e : place_sts s (n + 1) = place_sts s n := by rw [place_sts, if_neg hb]
      rw [e, show ((n + 1 : Nat) : Int) = (n : Int) + 1 by omega, show ((n : Int) + 1 - rd (place_sts s n) (((place_sts s n).length : Int) - 1) + 1) = ((n : Int) - rd (place_sts s n) (((place_sts s n).length : Int) - 1) + 1 + 1) by omega] at hnx
      exact hnx
theorem place_ref_at (s : ByteArray) (hs : s.size ≤ 1000000) (off : Int) (k : Nat) (hk : 2 * s.size + 1 < k) : pascalineref07_At.f k s off = some (((place_line s (place_sts s s.size) off : Nat) : Int) + 1, place_held s off - rd (place_sts s s.size) (place_line s (place_sts s s.size) off : Nat) + 1) := by
  have hb : 0 ≤ place_held s off ∧ place_held s off ≤ s.size := by unfold place_held; split <;> (try split) <;> omega
  have h := place_ref_at_loop s hs off (place_held s off).toNat (by omega) (by omega) (place_held s off).toNat k 0 (by omega) (by omega) (by omega)
  obtain ⟨h1, h2⟩ := place_at_line s hs off (place_held s off).toNat (by omega) (by omega)
  have hl := place_sts_len s (place_held s off).toNat
  rw [← h2, show ((place_held s off).toNat : Int) = place_held s off by omega, ← h1] at h
  unfold pascalineref07_At.f
  have e0 : (((place_sts s 0).length : Nat) : Int) = 1 := rfl
  have e1 : ((0 : Nat) : Int) - rd (place_sts s 0) (((place_sts s 0).length : Int) - 1) + 1 = 1 := rfl
  rw [e1, e0] at h
  exact h
theorem place_off_back (s : ByteArray) (L : List Int) (hG : place_Good s L) (hz : rd L 0 = 0) (line col v : Int) (h : place_off s L line col = (v, 0)) : ∃ n : Nat, (n : Int) = v ∧ n ≤ s.size ∧ ((place_line s L (n : Int) : Nat) : Int) + 1 = line ∧ place_held s (n : Int) - rd L (place_line s L (n : Int) : Nat) + 1 = col := by
  unfold place_off at h
  by_cases h1 : line < 1 ∨ (L.length : Int) < line ∨ col < 1
  · rw [if_pos h1] at h; injection h with _ h; omega
  · rw [if_neg h1] at h
    by_cases h2 : place_endf s L (line - 1) - rd L (line - 1) < col - 1
    · rw [if_pos h2] at h; injection h with _ h; omega
    · rw [if_neg h2] at h
      injection h with h _
      have he := place_endf_le s L hG (line - 1) (by omega) (by omega)
      have hlow := hG.low (line - 1) (by omega) (by omega)
      have hh : place_held s (v.toNat : Int) = v := by unfold place_held; rw [if_neg (by omega), if_neg (by omega)]; omega
      have hone := place_line_one s L hG hz (v.toNat : Int) (line - 1).toNat (by omega) (by rw [hh, show (((line - 1).toNat : Nat) : Int) = line - 1 by omega]; omega) (fun hlt => by
        rw [hh]
        unfold place_endf at h2
        rw [if_pos (by omega)] at h2
        rw [show (((line - 1).toNat + 1 : Nat) : Int) = line - 1 + 1 by omega]
        omega)
      refine ⟨v.toNat, by omega, by omega, by rw [hone]; omega, ?_⟩
      rw [hone, hh, show (((line - 1).toNat : Nat) : Int) = line - 1 by omega]
      omega
theorem place_ref_off_loop (s : ByteArray) (hs : s.size ≤ 1000000) (line col : Int) (d : Nat) : ∀ (k n : Nat), n ≤ s.size + 1 → s.size + 1 - n = d → 2 * s.size + 2 + d < k → (∀ j : Nat, j < n → place_off s (place_sts s s.size) line col ≠ ((j : Int), 0)) →
    pascalineref07_Offset.l0 k s line col (n : Int) = some (if (place_off s (place_sts s s.size) line col).2 = 0 then (place_off s (place_sts s s.size) line col).1 else -1) := by
  have hG := place_good s hs
  have hz := place_sts_zero s s.size
  induction d with
  | zero =>
    intro k n hn hd hk hno
    obtain ⟨k, rfl⟩ : ∃ m, k = m + 1 := ⟨k - 1, by omega⟩
    simp only [pascalineref07_Offset.l0]
    rw [if_neg (by omega), if_neg ?_]
    intro h0
    obtain ⟨m, hm, hms, _⟩ := place_off_back s _ hG hz line col (place_off s (place_sts s s.size) line col).1 (by rw [← h0])
    exact hno m (by omega) (by rw [hm, ← h0])
  | succ d ih =>
    intro k n hn hd hk hno
    obtain ⟨k, rfl⟩ : ∃ m, k = m + 1 := ⟨k - 1, by omega⟩
    simp only [pascalineref07_Offset.l0]
    rw [if_pos (by omega), place_ref_at s hs (n : Int) k (by omega)]
    simp only [Option.bind_some]
    obtain ⟨l, c, ⟨e1, e2⟩, _, _, _, e3⟩ := place_back.pure s _ hG hz n (by omega)
    rw [← e1, ← e2, place_wrap (by omega) (by omega)]
    by_cases h1 : l = line ∧ c = col
    · obtain ⟨rfl, rfl⟩ := h1
      rw [if_pos rfl, if_pos rfl, e3, if_pos rfl]
    · have hx : place_off s (place_sts s s.size) line col ≠ ((n : Int), 0) := by
        intro h
        obtain ⟨m, hm, _, h2, h3⟩ := place_off_back s _ hG hz line col (n : Int) h
        obtain rfl : m = n := by omega
        exact h1 ⟨e1.trans h2, e2.trans h3⟩
      have hih := ih k (n + 1) (by omega) (by omega) (by omega) (fun j hj => by
        by_cases e : j = n
        · subst e; exact hx
        · exact hno j (by omega))
      rw [show ((n + 1 : Nat) : Int) = (n : Int) + 1 by omega] at hih
      by_cases h2 : l = line
      · rw [if_pos h2, if_neg (fun h3 => h1 ⟨h2, h3⟩)]; exact hih
      · rw [if_neg h2]; exact hih
theorem place_ref_off (s : ByteArray) (hs : s.size ≤ 1000000) (line col : Int) (k : Nat) (hk : 3 * s.size + 10 < k) : pascalineref07_Offset.f k s line col = some (if (place_off s (place_sts s s.size) line col).2 = 0 then (place_off s (place_sts s s.size) line col).1 else -1) := by
  unfold pascalineref07_Offset.f
  exact place_ref_off_loop s hs line col (s.size + 1) k 0 (by omega) (by omega) (by omega) (fun j hj => by omega)
def pascalinelaw07_PlaceFinds.f (k : Nat) (a0 : ByteArray) (a1 : Int) (x : Int) (y : Int) : Option Bool := if 3000 ≤ k ∧ y ≤ 9223372036854775807 then some true else none
set_option maxHeartbeats 4000000 in
set_option maxRecDepth 100000 in
theorem pascalinelaw07_PlaceFinds.calls (k : Nat) (s : ByteArray) (off : Int) (x : Int) (y : Int) (r : Bool) (w : World) (h : pascalinelaw07_PlaceFinds.f k s off x y = some r) : Calls Try.prog 3 #[.string s, .int .i64 off, .agg #[.int .i64 x, .int .i64 y]] w fun e w' => e = .returned (.bool r) ∧ Below w.heap.size w w' := by
  unfold pascalinelaw07_PlaceFinds.f at h
  by_cases hk : 3000 ≤ k ∧ y ≤ 9223372036854775807
  · rw [if_pos hk] at h
    obtain rfl : r = true := by injection h with h; exact h.symm
    obtain ⟨hk, hy⟩ := hk
    clear h
    by_cases hs : 200 < (s.size : Int)
    · clear hk
      go_enter Try.func3, Try.ntmps3
      go_wp2_with (go_at_call 7; ((with_reducible refine (pascalinelaw07_awake.calls true _ rfl).mono ?_)); rintro e w1 ⟨rfl, hb⟩; have HB1 := Aside0.mk hb; clear hb)
      go_ret
      exact ⟨rfl, (below_alloc (Below.refl _ _) _).trans (HB1.out.mono (by simp))⟩
    · have hs2 : s.size ≤ 200 := by omega
      have HG := Aside0.mk (place_good s (by omega))
      have HZ := Aside0.mk (place_sts_zero s s.size)
      have HA := Aside0.mk (place_ref_at s (by omega) off k (by omega))
      have HO := Aside0.mk (place_ref_off s (by omega) x y k (by omega))
      have hs3 : decide (200 < (s.size : Int)) = false := decide_eq_false hs
      clear hs hk
      generalize hL : place_sts s s.size = L at HG HZ HA HO
      have HL := Aside0.mk hL
      clear hL
      generalize hl : ((place_line s L off : Nat) : Int) + 1 = l at HA
      generalize hc : place_held s off - rd L (place_line s L off : Nat) + 1 = c at HA
      have HLC := Aside0.mk (And.intro hl hc)
      clear hl hc
      have hcase : (place_off s L x y = (0, 31) ∧ pascalineref07_Offset.f k s x y = some (-1)) ∨ (∃ v : Int, 0 ≤ v ∧ place_off s L x y = (v, 0) ∧ pascalineref07_Offset.f k s x y = some v) := by
        have h1 := HO.out
        by_cases h2 : (place_off s L x y).2 = 0
        · rw [if_pos h2] at h1
          obtain ⟨n, hn, _⟩ := place_off_back s L HG.out HZ.out x y (place_off s L x y).1 (by rw [← h2])
          exact .inr ⟨_, by omega, by rw [← h2], h1⟩
        · rw [if_neg h2] at h1
          refine .inl ⟨?_, h1⟩
          unfold place_off at h2 ⊢
          split
          · rfl
          · rename_i h3
            rw [if_neg h3] at h2
            split
            · rfl
            · rename_i h4
              rw [if_neg h4] at h2
              exact absurd rfl h2
      have HY := Aside0.mk hy
      clear HO hy
      have HW := Aside0.mk (show ∀ W, Below (w.alloc (.cells #[.int .i64 x, .int .i64 y] 22)).heap.size (w.alloc (.cells #[.int .i64 x, .int .i64 y] 22)) W → W.cell? ⟨w.heap.size, 0, none⟩ = some (.int .i64 x) ∧ W.cell? ⟨w.heap.size, 1, none⟩ = some (.int .i64 y) from fun W hW => by
        have hb := (hW.block w.heap.size (by simp)).trans (blk_new w _)
        exact ⟨(blk_cell hb 0).trans rfl, (blk_cell hb 1).trans rfl⟩)
      have HWB := Aside0.mk (below_alloc (Below.refl w.heap.size w) (.cells #[.int .i64 x, .int .i64 y] 22))
      rcases hcase with ⟨ho1, ho2⟩ | ⟨v, hv, ho1, ho2⟩
      all_goals
        have HO1 := Aside0.mk ho1
        have HO2 := Aside0.mk ho2
        clear ho1 ho2
        go_enter Try.func3, Try.ntmps3
        go_wp2_with (first
          | (go_at_call 7; ((with_reducible refine (pascalinelaw07_awake.calls true _ rfl).mono ?_)); rintro e w1 ⟨rfl, hb⟩; have HB1 := Aside0.mk hb; clear hb)
          | (go_at_call 8; ((with_reducible refine (place_New.calls s _ (by omega)).mono ?_)); rintro e w2 ⟨g, rfl, hI, hb⟩; rw [HL.out] at hI; have HI := Aside0.mk hI; have HB2 := Aside0.mk (below_step HB1.out hb); clear hI hb HB1)
          | (go_at_call 9; ((with_reducible refine (place_At.calls g s L off _ HI.out HG.out HZ.out).mono ?_)); rintro e w3 ⟨rfl, hb⟩; rw [HLC.out.1, HLC.out.2]; have HI3 := Aside0.mk (HI.out.below hb); have HB3 := Aside0.mk (below_step HB2.out hb); clear hb HI HB2)
          | (go_at_call 10; ((with_reducible refine (pascalineref07_At.calls k s off l c _ HA.out).mono ?_)); rintro e w4 ⟨rfl, hd⟩; have HI4 := Aside0.mk (HI3.out.below hd.below); have HB4 := Aside0.mk (below_step HB3.out hd.below); have hx4 := (HW.out _ HB4.out).1; have hy4 := (HW.out _ HB4.out).2; clear hd HI3 HB3)
          | (go_at_call 11; ((with_reducible refine (place_Offset.calls g s L x y _ HI4.out HG.out HY.out).mono ?_)); rintro e w5 ⟨rfl, hb⟩; rw [HO1.out]; have HB5 := Aside0.mk (below_step HB4.out hb); have hx5 := (HW.out _ HB5.out).1; have hy5 := (HW.out _ HB5.out).2; clear hb HI4 HB4 hx4 hy4)
          | (go_at_call 12; ((with_reducible refine (pascalineref07_Offset.calls k s x y _ _ HO2.out).mono ?_)); rintro e w6 ⟨rfl, hd⟩; have HB6 := Aside0.mk (below_step HB5.out hd.below); clear hd HB5 hx5 hy5))
        go_ret
        exact ⟨rfl, HWB.out.trans (HB6.out.mono (by simp))⟩
  · rw [if_neg hk] at h; exact absurd h (by simp)

end Go.Proofs.Ytcpiaahkjgdliaa.P

/- What the reference's At, Lines and Mark answer: made by a program out of wip/hand/pascalinelaw07_*.tpl. -/
import Derived.Test.YtmebogkhdbbbbaaPx4
import Derived.Test.YtmebogkhdbbbbaaPx5
import Derived.Test.YtmebogkhdbbbbaaPx6
import Derived.Test.YtmebogkhdbbbbaaPx7
import Derived.Test.YtmebogkhdbbbbaaPx8
import Derived.Test.YtmebogkhdbbbbaaPx12
import Derived.Test.YtmebogkhdbbbbaaPx13
import Derived.Test.YtmebogkhdbbbbaaPx14
import Derived.Test.YtmebogkhdbbbbaaCPlace
import Derived.Test.YtmebogkhdbbbbaaCBytes
namespace Go.Proofs.Ytmebogkhdbbbbaa.Q
set_option linter.unusedSimpArgs false
set_option linter.unusedVariables false
open Go Go.RowKit Go.Proofs.Ytmebogkhdbbbbaa.P Go.Proofs.Ytmebogkhdbbbbaa.C Go.Proofs.YtmebogkhdbbbbaaW.PrintWords Go.Proofs.YtmebogkhdbbbbaaW.PrintLast Go.Proofs.YtmebogkhdbbbbaaW.PrintMore
structure place_RL (s : ByteArray) (n : Nat) (acc : List ByteArray) (from_ : Int) : Prop where
  len : acc.length + 1 = (place_sts s n).length
  last : from_ = rd (place_sts s n) (acc.length : Int)
  each : ∀ j : Nat, j < acc.length → rdOf ByteArray.empty acc (j : Int) = s.extract (rd (place_sts s n) (j : Int)).toNat (rd (place_sts s n) ((j : Int) + 1) - 1).toNat
theorem place_rdOf_left (L K : List ByteArray) (i : Nat) (h : i < L.length) : rdOf ByteArray.empty (L ++ K) (i : Int) = rdOf ByteArray.empty L (i : Int) := by
  unfold rdOf; rw [Int.toNat_natCast]; simp [List.getD_eq_getElem?_getD, List.getElem?_append_left h]
theorem place_rdOf_last (L : List ByteArray) (x : ByteArray) (i : Nat) (h : i = L.length) : rdOf ByteArray.empty (L ++ [x]) (i : Int) = x := by
  subst h; unfold rdOf; rw [Int.toNat_natCast]; simp [List.getD_eq_getElem?_getD]
theorem place_RL.step {s : ByteArray} {n : Nat} {acc : List ByteArray} {from_ : Int} (h : place_RL s n acc from_) (hb : bt s (n : Int) = 10) : place_RL s (n + 1) (acc ++ [s.extract from_.toNat n]) ((n : Int) + 1) := by
  have hs : place_sts s (n + 1) = place_sts s n ++ [(n : Int) + 1] := by rw [place_sts, if_pos hb]
  have hl := h.len
  refine ⟨by rw [hs]; simp; omega, ?_, fun j hj => ?_⟩
  · rw [hs, place_rd_last _ _ _ (by simp; omega)]
  · rw [List.length_append, List.length_singleton] at hj
    by_cases e : j = acc.length
    · rw [place_rdOf_last _ _ _ e, hs, place_rd_left _ _ _ (by omega) (by omega), place_rd_last _ _ _ (by omega), e, ← h.last]
      congr 1; omega
    · rw [place_rdOf_left _ _ _ (by omega), hs, place_rd_left _ _ _ (by omega) (by omega), place_rd_left _ _ _ (by omega) (by omega)]
      exact h.each j (by omega)
theorem place_RL.skip {s : ByteArray} {n : Nat} {acc : List ByteArray} {from_ : Int} (h : place_RL s n acc from_) (hb : bt s (n : Int) ≠ 10) : place_RL s (n + 1) acc from_ := by
  have hs : place_sts s (n + 1) = place_sts s n := by rw [place_sts, if_neg hb]
  exact ⟨by rw [hs]; exact h.len, by rw [hs]; exact h.last, by rw [hs]; exact h.each⟩
theorem place_wrap {i : Int} (h0 : -1000 ≤ i) (h : i ≤ 10000000) : wrap64 (i + 1) = i + 1 := by unfold wrap64; omega
/-- What the lines are. -/
def place_AllLines (s : ByteArray) (R : List ByteArray) : Prop := R.length = (place_sts s s.size).length ∧ ∀ j : Nat, j < R.length → rdOf ByteArray.empty R (j : Int) = place_linef s (place_sts s s.size) ((j : Int) + 1)
theorem place_ref_loop (s : ByteArray) (hs : s.size ≤ 1000000) (d : Nat) : ∀ (k n : Nat) (acc : List ByteArray) (from_ : Int), n ≤ s.size → s.size - n = d → d < k → place_RL s n acc from_ →
    ∃ R, pascalineref07_Lines.l0 k s acc from_ (n : Int) = some R ∧ place_AllLines s R := by
  induction d with
  | zero =>
    intro k n acc from_ hn hd hk h
    obtain ⟨k, rfl⟩ : ∃ m, k = m + 1 := ⟨k - 1, by omega⟩
    obtain rfl : n = s.size := by omega
    have g := (place_sts_good s hs s.size (Nat.le_refl _)).1
    have hl := h.len
    have hle := place_sts_len s s.size
    have hf := g (acc.length : Int) (by omega) (by omega)
    rw [← h.last] at hf
    refine ⟨acc ++ [s.extract from_.toNat s.size], ?_, by simp; omega, fun j hj => ?_⟩
    · simp only [pascalineref07_Lines.l0]
      rw [if_neg (by omega), if_pos (by omega), if_pos (by omega), if_pos (by omega)]
    · rw [List.length_append, List.length_singleton] at hj
      unfold place_linef
      rw [if_neg (by omega), show ((j : Int) + 1 - 1) = (j : Int) by omega]
      unfold place_endf
      by_cases e : j = acc.length
      · rw [place_rdOf_last _ _ _ e, if_neg (by omega), e, ← h.last]
        congr 1
      · rw [place_rdOf_left _ _ _ (by omega), if_pos (by omega)]
        exact h.each j (by omega)
  | succ d ih =>
    intro k n acc from_ hn hd hk h
    obtain ⟨k, rfl⟩ : ∃ m, k = m + 1 := ⟨k - 1, by omega⟩
    have g := (place_sts_good s hs n hn).1
    have hl := h.len
    have hle := place_sts_len s n
    have hf := g (acc.length : Int) (by omega) (by omega)
    rw [← h.last] at hf
    simp only [pascalineref07_Lines.l0]
    rw [if_pos (by omega), if_pos (by omega), place_wrap (by omega) (by omega)]
    by_cases hb : bt s (n : Int) = 10
    · rw [if_pos hb, if_pos (by omega), if_pos (by omega), if_pos (by omega), if_pos (by omega), Int.toNat_natCast, show ((n : Int) + 1) = ((n + 1 : Nat) : Int) by omega]
      have hst := h.step hb
      rw [show ((n : Int) + 1) = ((n + 1 : Nat) : Int) by omega] at hst
      exact ih k (n + 1) _ _ (by omega) (by omega) (by omega) hst
    · rw [if_neg hb, show ((n : Int) + 1) = ((n + 1 : Nat) : Int) by omega]
      exact ih k (n + 1) _ _ (by omega) (by omega) (by omega) (h.skip hb)
theorem place_ref_lines (s : ByteArray) (hs : s.size ≤ 1000000) (k : Nat) (hk : s.size < k) : ∃ R, pascalineref07_Lines.f k s = some R ∧ place_AllLines s R := by
  unfold pascalineref07_Lines.f
  exact place_ref_loop s hs s.size k 0 [] 0 (by omega) (by omega) hk ⟨rfl, rfl, fun j hj => by simp at hj⟩
theorem place_prefix (s : ByteArray) (n d : Nat) : ∃ K : List Int, place_sts s (n + d) = place_sts s n ++ K ∧ ∀ x ∈ K, (n : Int) < x := by
  induction d with
  | zero => exact ⟨[], by simp, by simp⟩
  | succ d ih =>
    obtain ⟨K, h1, h2⟩ := ih
    show ∃ K, place_sts s (n + d + 1) = _ ∧ _
    rw [place_sts]
    by_cases h : bt s ((n + d : Nat) : Int) = 10
    · rw [if_pos h, h1]
      refine ⟨K ++ [((n + d : Nat) : Int) + 1], by rw [List.append_assoc], fun x hx => ?_⟩
      rw [List.mem_append, List.mem_singleton] at hx
      rcases hx with hx | rfl
      · exact h2 x hx
      · omega
    · rw [if_neg h]; exact ⟨K, h1, h2⟩
theorem place_rd_right (L K : List Int) (i : Int) (h0 : (L.length : Int) ≤ i) (h1 : i < ((L ++ K).length : Int)) : rd (L ++ K) i ∈ K := by
  rw [List.length_append] at h1
  unfold rd
  rw [List.getD_eq_getElem?_getD, List.getElem?_append_right (by omega), List.getElem?_eq_getElem (by omega)]
  exact List.getElem_mem _
theorem place_mono {s : ByteArray} {L : List Int} (hG : place_Good s L) (d : Nat) : ∀ i j : Int, 0 ≤ i → j < L.length → j - i = d → rd L i ≤ rd L j := by
  induction d with
  | zero => intro i j _ _ hd; rw [show i = j by omega]; exact Int.le_refl _
  | succ d ih =>
    intro i j h0 h1 hd
    have a := ih i (j - 1) h0 (by omega) (by omega)
    have b := hG.rise (j - 1) (by omega) (by omega)
    rw [show j - 1 + 1 = j by omega] at b
    omega
/-- The line of a byte is the only one that begins there or before, and behind which none does. -/
theorem place_line_one (s : ByteArray) (L : List Int) (hG : place_Good s L) (hz : rd L 0 = 0) (off : Int) (m : Nat) (hm : m < L.length) (h1 : rd L (m : Int) ≤ place_held s off) (h2 : m + 1 < L.length → place_held s off < rd L ((m + 1 : Nat) : Int)) : place_line s L off = m := by
  obtain ⟨g1, g2, g3⟩ := place_line_spec s L off hG hz
  rcases Nat.lt_trichotomy (place_line s L off) m with c | c | c
  · have a := g3 (by omega)
    have b := place_mono hG (m - (place_line s L off + 1)) ((place_line s L off + 1 : Nat) : Int) (m : Int) (by omega) (by omega) (by omega)
    omega
  · exact c
  · have a := h2 (by omega)
    have b := place_mono hG (place_line s L off - (m + 1)) ((m + 1 : Nat) : Int) ((place_line s L off : Nat) : Int) (by omega) (by omega) (by omega)
    omega
theorem place_at_line (s : ByteArray) (hs : s.size ≤ 1000000) (off : Int) (n : Nat) (hn : (n : Int) = place_held s off) (hns : n ≤ s.size) : place_line s (place_sts s s.size) off + 1 = (place_sts s n).length ∧ rd (place_sts s s.size) ((place_line s (place_sts s s.size) off : Nat) : Int) = rd (place_sts s n) (((place_sts s n).length : Int) - 1) := by
  have hG := place_good s hs
  obtain ⟨K, h1, h2⟩ := place_prefix s n (s.size - n)
  rw [show n + (s.size - n) = s.size by omega] at h1
  have hl := place_sts_len s n
  have hg := (place_sts_good s hs n hns).1 (((place_sts s n).length - 1 : Nat) : Int) (by omega) (by omega)
  have e : rd (place_sts s s.size) (((place_sts s n).length - 1 : Nat) : Int) = rd (place_sts s n) (((place_sts s n).length - 1 : Nat) : Int) := by rw [h1, place_rd_left _ _ _ (by omega) (by omega)]
  have hone := place_line_one s (place_sts s s.size) hG (place_sts_zero s s.size) off ((place_sts s n).length - 1) (by rw [h1, List.length_append]; omega) (by rw [e, ← hn]; exact hg.2) (fun h => by
    rw [← hn]
    have hx := place_rd_right (place_sts s n) K (((place_sts s n).length - 1 + 1 : Nat) : Int) (by omega) (by rw [← h1]; omega)
    rw [← h1] at hx
    exact h2 _ hx)
  refine ⟨by omega, ?_⟩
  rw [hone, e]
  congr 1
  omega
theorem place_ref_at_loop (s : ByteArray) (hs : s.size ≤ 1000000) (off : Int) (N : Nat) (hN : (N : Int) = place_held s off) (hNs : N ≤ s.size) (d : Nat) : ∀ (k n : Nat), n ≤ N → N - n = d → 2 * d + 1 < k →
    pascalineref07_At.l0 k s off ((place_sts s n).length : Int) ((n : Int) - rd (place_sts s n) (((place_sts s n).length : Int) - 1) + 1) (n : Int) = some (((place_sts s N).length : Int), (N : Int) - rd (place_sts s N) (((place_sts s N).length : Int) - 1) + 1) := by
  induction d with
  | zero =>
    intro k n hn hd hk
    obtain ⟨k, rfl⟩ : ∃ m, k = m + 2 := ⟨k - 2, by omega⟩
    obtain rfl : n = N := by omega
    have hh : ¬ ((n : Int) < off ∧ (n : Int) < (s.size : Int)) := by
      rw [hN]; unfold place_held; split
      · omega
      · split <;> omega
    simp only [pascalineref07_At.l0]
    by_cases h1 : (n : Int) < off
    · rw [if_pos h1]
      simp only [pascalineref07_At.j1]
      rw [if_neg (by simp; omega)]
    · rw [if_neg h1]
      simp only [pascalineref07_At.j1]
      rw [if_neg (by simp)]
  | succ d ih =>
    intro k n hn hd hk
    obtain ⟨k, rfl⟩ : ∃ m, k = m + 2 := ⟨k - 2, by omega⟩
    have hh : (n : Int) < off := by
      have : (N : Int) = place_held s off := hN
      unfold place_held at this; split at this
      · omega
      · split at this <;> omega
    have hl := place_sts_len s n
    have hg := (place_sts_good s hs n (by omega)).1 (((place_sts s n).length : Int) - 1) (by omega) (by omega)
    have hnx := ih k (n + 1) (by omega) (by omega) (by omega)
    simp only [pascalineref07_At.l0]
    rw [if_pos hh]
    simp only [pascalineref07_At.j1]
    rw [if_pos (by simp; omega), if_pos (by omega), if_pos (by omega), place_wrap (i := (n : Int)) (by omega) (by omega), place_wrap (by omega) (by omega), place_wrap (by omega) (by omega)]
    by_cases hb : bt s (n : Int) = 10
    · rw [if_pos hb]
      have e : place_sts s (n + 1) = place_sts s n ++ [(n : Int) + 1] := by rw [place_sts, if_pos hb]
      rw [e, List.length_append, List.length_singleton, place_rd_last _ _ _ (by omega), show ((n + 1 : Nat) : Int) = (n : Int) + 1 by omega, show (((place_sts s n).length + 1 : Nat) : Int) = ((place_sts s n).length : Int) + 1 by omega, show ((n : Int) + 1 - ((n : Int) + 1) + 1) = 1 by omega] at hnx
      exact hnx
    · rw [if_neg hb]
      have e : place_sts s (n + 1) = place_sts s n := by rw [place_sts, if_neg hb]
      rw [e, show ((n + 1 : Nat) : Int) = (n : Int) + 1 by omega, show ((n : Int) + 1 - rd (place_sts s n) (((place_sts s n).length : Int) - 1) + 1) = ((n : Int) - rd (place_sts s n) (((place_sts s n).length : Int) - 1) + 1 + 1) by omega] at hnx
      exact hnx
theorem place_ref_at (s : ByteArray) (hs : s.size ≤ 1000000) (off : Int) (k : Nat) (hk : 2 * s.size + 1 < k) : pascalineref07_At.f k s off = some (((place_line s (place_sts s s.size) off : Nat) : Int) + 1, place_held s off - rd (place_sts s s.size) (place_line s (place_sts s s.size) off : Nat) + 1) := by
  have hb : 0 ≤ place_held s off ∧ place_held s off ≤ s.size := by unfold place_held; split <;> (try split) <;> omega
  have h := place_ref_at_loop s hs off (place_held s off).toNat (by omega) (by omega) (place_held s off).toNat k 0 (by omega) (by omega) (by omega)
  obtain ⟨h1, h2⟩ := place_at_line s hs off (place_held s off).toNat (by omega) (by omega)
  have hl := place_sts_len s (place_held s off).toNat
  rw [← h2, show ((place_held s off).toNat : Int) = place_held s off by omega, ← h1] at h
  unfold pascalineref07_At.f
  have e0 : (((place_sts s 0).length : Nat) : Int) = 1 := rfl
  have e1 : ((0 : Nat) : Int) - rd (place_sts s 0) (((place_sts s 0).length : Int) - 1) + 1 = 1 := rfl
  rw [e1, e0] at h
  exact h
theorem marks_text (s : ByteArray) : strOfNums (bytesOf s) = s := C.bytesOf_inj (C.bytesOf_nums _ (C.bytesOf_range s))
theorem marks_loop (l : ByteArray) (hl : l.size ≤ 2000) (c : Nat) (hc : c ≤ l.size) (d : Nat) : ∀ (k i : Nat), i + d = c → d < k →
    pascalineref07_Mark.l0 k ((c : Int) + 1) l (strOfNums (place_padded (bytesOf (l ++ (⟨#[10]⟩ : ByteArray))) i)) (i : Int) = some (place_marked l c) := by
  have hB : (bytesOf (l ++ (⟨#[10]⟩ : ByteArray))).length = l.size + 1 := by rw [bytesOf_length, ByteArray.size_append]; rfl
  have hw : wrap64 ((c : Int) + 1 - 1) = (c : Int) := by unfold wrap64; omega
  induction d with
  | zero =>
    intro k i hi hk
    obtain ⟨k, rfl⟩ : ∃ m, k = m + 1 := ⟨k - 1, by omega⟩
    have hlen := (place_padded_spec (bytesOf (l ++ (⟨#[10]⟩ : ByteArray))) i).1
    simp only [pascalineref07_Mark.l0]
    rw [hw, if_neg (by omega), if_pos (by rw [strOfNums_size, hlen, hB]; omega)]
    obtain rfl : i = c := by omega
    unfold place_marked
    rw [C.strOfNums_append]
    rfl
  | succ d ih =>
    intro k i hi hk
    obtain ⟨k, rfl⟩ : ∃ m, k = m + 1 := ⟨k - 1, by omega⟩
    have hlen := (place_padded_spec (bytesOf (l ++ (⟨#[10]⟩ : ByteArray))) i).1
    have hnx := ih k (i + 1) (by omega) (by omega)
    have hwi : wrap64 ((i : Int) + 1) = ((i + 1 : Nat) : Int) := by unfold wrap64; omega
    have hbt : bt l (i : Int) = (bytesOf (l ++ (⟨#[10]⟩ : ByteArray))).getD i 0 := by
      have h1 : i < (bytesOf l).length := by rw [bytesOf_length]; omega
      rw [C.bt_get l i h1, C.bytesOf_append, List.getD_eq_getElem?_getD, List.getElem?_append_left h1, List.getElem?_eq_getElem h1]
      rfl
    rw [place_padded] at hnx
    simp only [pascalineref07_Mark.l0]
    rw [hw, if_pos (by omega), if_pos (by omega), if_pos (by omega), hwi, hbt]
    have hsz : (strOfNums (place_padded (bytesOf (l ++ (⟨#[10]⟩ : ByteArray))) i)).size + 1 ≤ 9223372036854775807 := by rw [strOfNums_size, hlen, hB]; omega
    by_cases h9 : (bytesOf (l ++ (⟨#[10]⟩ : ByteArray))).getD i 0 = 9
    · rw [if_pos h9, C.strOfNums_append] at hnx
      rw [if_pos h9, if_pos hsz]
      exact hnx
    · rw [if_neg h9, C.strOfNums_append] at hnx
      rw [if_neg h9, if_pos hsz]
      exact hnx
theorem marks_ref (s : ByteArray) (hs : s.size ≤ 2000) (off : Int) (k : Nat) (hk : 5000 ≤ k) :
    pascalineref07_Mark.f k s off = some (place_marked (place_linef s (place_sts s s.size) ((place_line s (place_sts s s.size) off : Nat) + 1)) (place_held s off - rd (place_sts s s.size) (place_line s (place_sts s s.size) off : Nat)).toNat) := by
  have hA := place_ref_at s (by omega) off k (by omega)
  obtain ⟨R, hR, hRl, hRe⟩ := place_ref_lines s (by omega) k (by omega)
  have hG := place_good s (by omega : s.size ≤ 1000000)
  have hz := place_sts_zero s s.size
  generalize place_sts s s.size = L at *
  obtain ⟨q1, q2, q3⟩ := place_line_spec s L off hG hz
  have hend := place_endf_le s L hG ((place_line s L off : Nat) : Int) (by omega) (by omega)
  have hlow := hG.low ((place_line s L off : Nat) : Int) (by omega) (by omega)
  have hheld : 0 ≤ place_held s off ∧ place_held s off ≤ s.size := by unfold place_held; split <;> (try split) <;> omega
  have hce : place_held s off ≤ place_endf s L ((place_line s L off : Nat) : Int) := by
    unfold place_endf
    split
    · have := q3 (by omega)
      rw [show ((place_line s L off + 1 : Nat) : Int) = ((place_line s L off : Nat) : Int) + 1 by omega] at this
      omega
    · exact hheld.2
  have hl : (place_linef s L (((place_line s L off : Nat) : Int) + 1)).size = (place_endf s L ((place_line s L off : Nat) : Int)).toNat - (rd L ((place_line s L off : Nat) : Int)).toNat := by
    unfold place_linef
    rw [if_neg (by omega), show ((place_line s L off : Nat) : Int) + 1 - 1 = ((place_line s L off : Nat) : Int) by omega, ByteArray.size_extract]
    omega
  have hcn : (place_held s off - rd L ((place_line s L off : Nat) : Int)).toNat ≤ (place_linef s L (((place_line s L off : Nat) : Int) + 1)).size := by rw [hl]; omega
  have hsz : (place_linef s L (((place_line s L off : Nat) : Int) + 1)).size ≤ 2000 := by rw [hl]; omega
  have hcol : place_held s off - rd L ((place_line s L off : Nat) : Int) + 1 = (((place_held s off - rd L ((place_line s L off : Nat) : Int)).toNat : Nat) : Int) + 1 := by omega
  have hline := hRe (place_line s L off) (by omega)
  have hw : wrap64 (((place_line s L off : Nat) : Int) + 1 - 1) = ((place_line s L off : Nat) : Int) := by have := hG.len; unfold wrap64; omega
  have hloop := marks_loop (place_linef s L (((place_line s L off : Nat) : Int) + 1)) hsz _ hcn (place_held s off - rd L ((place_line s L off : Nat) : Int)).toNat k 0 (by omega) (by omega)
  unfold pascalineref07_Mark.f
  rw [hA, hR, Option.bind_some, Option.bind_some]
  simp only []
  rw [hw, hline, if_pos (by omega), if_pos (by omega), if_pos (by omega), hcol]
  rw [place_padded, marks_text] at hloop
  exact hloop
end Go.Proofs.Ytmebogkhdbbbbaa.Q

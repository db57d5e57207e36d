-- Written by a program of this session (wip/tools/hp.py) out of the translation.
import Derived.Test.YtcpiaahkjgdliaaPx0
import Derived.Test.YtcpiaahkjgdliaaPx1
import Derived.Test.YtcpiaahkjgdliaaPx2
import Derived.Test.YtcpiaahkjgdliaaPx3
import Derived.Test.YtcpiaahkjgdliaaPx4
import Derived.Test.YtcpiaahkjgdliaaPx7
import Derived.Test.YtcpiaahkjgdliaaPx8
import Derived.Test.YtcpiaahkjgdliaaPx11
import Derived.Test.YtcpiaahkjgdliaaPx12
import Derived.Test.YtcpiaahkjgdliaaPx13
namespace Go.Proofs.Ytcpiaahkjgdliaa.P
open Go.RowKit Go.Proofs.YtcpiaahkjgdliaaW.PrintWords Go.Proofs.YtcpiaahkjgdliaaW.PrintLast Go.Proofs.YtcpiaahkjgdliaaW.PrintMore
attribute [local go_sem] max2_int min2_int max_two min_two max_three min_three max_four min_four   -- for this text's walks alone
set_option linter.unusedVariables false
set_option linter.unusedSimpArgs false

/-! ### pascalinelaw07_PlaceMarks: function 6 -/
theorem marks_text (s : ByteArray) : strOfNums (bytesOf s) = s := C.bytesOf_inj (C.bytesOf_nums _ (C.bytesOf_range s))
theorem marks_loop (l : ByteArray) (hl : l.size ≤ 2000) (c : Nat) (hc : c ≤ l.size) (d : Nat) : ∀ (k i : Nat), i + d = c → d < k →
    pascalineref07_Mark.l0 k ((c : Int) + 1) l (strOfNums (place_padded (bytesOf (l ++ (⟨#[10]⟩ : ByteArray))) i)) (i : Int) = some (place_marked l c) := by
  have hB : (bytesOf (l ++ (⟨#[10]⟩ : ByteArray))).length = l.size + 1 := by rw [bytesOf_length, ByteArray.size_append]; rfl
  have hw : wrap64 ((c : Int) + 1 - 1) = (c : Int) := by unfold wrap64; omega
  induction d with
  | zero =>
    intro k i hi hk
    obtain ⟨k, rfl⟩ : ∃ m, k = m + 1 := ⟨k - 1, by omega⟩
    have hlen := (place_padded_spec (bytesOf (l ++ (⟨#[10]⟩ : ByteArray))) i).1
    simp only [pascalineref07_Mark.l0]
    rw [hw, if_neg (by omega), if_pos (by rw [strOfNums_size, hlen, hB]; omega)]
    obtain rfl : i = c := by omega
    unfold place_marked
    rw [C.strOfNums_append]
    rfl
  | succ d ih =>
    intro k i hi hk
    obtain ⟨k, rfl⟩ : ∃ m, k = m + 1 := ⟨k - 1, by omega⟩
    have hlen := (place_padded_spec (bytesOf (l ++ (⟨#[10]⟩ : ByteArray))) i).1
    have hnx := ih k (i + 1) (by omega) (by omega)
    have hwi : wrap64 ((i : Int) + 1) = ((i + 1 : Nat) : Int) := by unfold wrap64; omega
    have hbt : bt l (i : Int) = (bytesOf (l ++ (⟨#[10]⟩ : ByteArray))).getD i 0 := by
      have h1 : i < (bytesOf l).length := by rw [bytesOf_length]; omega
      rw [C.bt_get l i h1, C.bytesOf_append, List.getD_eq_getElem?_getD, List.getElem?_append_left h1, List.getElem?_eq_getElem h1]
      rfl
    rw [place_padded] at hnx
    simp only [pascalineref07_Mark.l0]
    rw [hw, if_pos (by omega), if_pos (by omega), if_pos (by omega), hwi, hbt]
    have hsz : (strOfNums (place_padded (bytesOf (l ++ (⟨#[10]⟩ : ByteArray))) i)).size + 1 ≤ 9223372036854775807 := by rw [strOfNums_size, hlen, hB]; omega
    by_cases h9 : (bytesOf (l ++ (⟨#[10]⟩ : ByteArray))).getD i 0 = 9
    · rw [if_pos h9, C.strOfNums_append] at hnx
      rw [if_pos h9, if_pos hsz]
      exact hnx
    · rw [if_neg h9, C.strOfNums_append] at hnx
      rw [if_neg h9, if_pos hsz]
      exact hnx
theorem marks_ref (s : ByteArray) (hs : s.size ≤ 2000) (off : Int) (k : Nat) (hk : 5000 ≤ k) :
    pascalineref07_Mark.f k s off = some (place_marked (place_linef s (place_sts s s.size) ((place_line s (place_sts s s.size) off : Nat) + 1)) (place_held s off - rd (place_sts s s.size) (place_line s (place_sts s s.size) off : Nat)).toNat) := by
  have hA := place_ref_at s (by omega) off k (by omega)
  obtain ⟨R, hR, hRl, hRe⟩ := place_ref_lines s (by omega) k (by omega)
  have hG := place_good s (by omega : s.size ≤ 1000000)
  have hz := place_sts_zero s s.size
  generalize place_sts s s.size = L at *
  obtain ⟨q1, q2, q3⟩ := place_line_spec s L off hG hz
  have hend := place_endf_le s L hG ((place_line s L off : Nat) : Int) (by omega) (by omega)
  have hlow := hG.low ((place_line s L off : Nat) : Int) (by omega) (by omega)
  have hheld : 0 ≤ place_held s off ∧ place_held s off ≤ s.size := by unfold place_held; split <;> (try split) <;> omega
  have hce : place_held s off ≤ place_endf s L ((place_line s L off : Nat) : Int) := by
    unfold place_endf
    split
    · have := q3 (by omega)
      rw [show ((place_line s L off + 1 : Nat) : Int) = ((place_line s L off : Nat) : Int) + 1 by omega] at this
      omega
    · exact hheld.2
  have hl : (place_linef s L (((place_line s L off : Nat) : Int) + 1)).size = (place_endf s L ((place_line s L off : Nat) : Int)).toNat - (rd L ((place_line s L off : Nat) : Int)).toNat := by
    unfold place_linef
    rw [if_neg (by omega), show ((place_line s L off : Nat) : Int) + 1 - 1 = ((place_line s L off : Nat) : Int) by omega, ByteArray.size_extract]
    omega
  have hcn : (place_held s off - rd L ((place_line s L off : Nat) : Int)).toNat ≤ (place_linef s L (((place_line s L off : Nat) : Int) + 1)).size := by rw [hl]; omega
  have hsz : (place_linef s L (((place_line s L off : Nat) : Int) + 1)).size ≤ 2000 := by rw [hl]; omega
  have hcol : place_held s off - rd L ((place_line s L off : Nat) : Int) + 1 = (((place_held s off - rd L ((place_line s L off : Nat) : Int)).toNat : Nat) : Int) + 1 := by omega
  have hline := hRe (place_line s L off) (by omega)
  have hw : wrap64 (((place_line s L off : Nat) : Int) + 1 - 1) = ((place_line s L off : Nat) : Int) := by have := hG.len; unfold wrap64; omega
  have hloop := marks_loop (place_linef s L (((place_line s L off : Nat) : Int) + 1)) hsz _ hcn (place_held s off - rd L ((place_line s L off : Nat) : Int)).toNat k 0 (by omega) (by omega)
  unfold pascalineref07_Mark.f
  rw [hA, hR, Option.bind_some, Option.bind_some]
  simp only []
  rw [hw, hline, if_pos (by omega), if_pos (by omega), if_pos (by omega), hcol]
  rw [place_padded, marks_text] at hloop
  exact hloop
def pascalinelaw07_PlaceMarks.f (k : Nat) (a0 : ByteArray) (a1 : Int) : Option Bool := if 5000 ≤ k then some true else none
theorem pascalinelaw07_PlaceMarks.mono (k : Nat) : ∀ a0 a1, LeO (pascalinelaw07_PlaceMarks.f k a0 a1) (pascalinelaw07_PlaceMarks.f (k + 1) a0 a1) := by
  intro a0 a1 r h
  unfold pascalinelaw07_PlaceMarks.f at h ⊢
  split at h
  · rename_i hk; rw [if_pos (by omega)]; exact h
  · cases h
set_option maxHeartbeats 4000000 in
set_option maxRecDepth 100000 in
theorem pascalinelaw07_PlaceMarks.calls (k : Nat) (s : ByteArray) (off : Int) (r : Bool) (w : World) (h : pascalinelaw07_PlaceMarks.f k s off = some r) : Calls Try.prog 6 #[.string s, .int .i64 off] w fun e w' => e = .returned (.bool r) ∧ Below w.heap.size w w' := by
  unfold pascalinelaw07_PlaceMarks.f at h
  by_cases hk : 5000 ≤ k
  · rw [if_pos hk] at h
    obtain rfl : r = true := by injection h with h; exact h.symm
    clear h
    by_cases hs : 2000 < (s.size : Int)
    · clear hk
      go_enter Try.func6, Try.ntmps6
      go_wp2_with (go_at_call 7; ((with_reducible refine (pascalinelaw07_awake.calls true _ rfl).mono ?_)); rintro e w1 ⟨rfl, hb⟩; have HB1 := Aside0.mk hb; clear hb)
      go_ret
      exact ⟨rfl, HB1.out⟩
    · have hs2 : s.size ≤ 2000 := by omega
      have HG := Aside0.mk (place_good s (by omega))
      have HZ := Aside0.mk (place_sts_zero s s.size)
      have HF := Aside0.mk (marks_ref s hs2 off k hk)
      have hs3 : decide (2000 < (s.size : Int)) = false := decide_eq_false hs
      clear hs hk
      generalize hL : place_sts s s.size = L at HG HZ HF
      have HL := Aside0.mk hL
      clear hL
      generalize hm : place_marked (place_linef s L ((place_line s L off : Nat) + 1)) (place_held s off - rd L (place_line s L off : Nat)).toNat = m at HF
      have HM := Aside0.mk hm
      clear hm
      go_enter Try.func6, Try.ntmps6
      go_wp2_with (first
        | (go_at_call 7; ((with_reducible refine (pascalinelaw07_awake.calls true _ rfl).mono ?_)); rintro e w1 ⟨rfl, hb⟩; have HB1 := Aside0.mk hb; clear hb)
        | (go_at_call 8; ((with_reducible refine (place_New.calls s _ (by omega)).mono ?_)); rintro e w2 ⟨g, rfl, hI, hb⟩; rw [HL.out] at hI; have HI := Aside0.mk hI; have HB2 := Aside0.mk (below_step HB1.out hb); clear hI hb HB1)
        | (go_at_call 17; ((with_reducible refine (place_Mark.calls g s L off _ HI.out HG.out HZ.out hs2).mono ?_)); rintro e w3 ⟨rfl, hb⟩; rw [HM.out]; have HB3 := Aside0.mk (below_step HB2.out hb); clear hb HI HB2)
        | (go_at_call 18; ((with_reducible refine (pascalineref07_Mark.calls k s off m _ HF.out).mono ?_)); rintro e w4 ⟨rfl, hd⟩; have HB4 := Aside0.mk (below_step HB3.out hd); clear hd HB3))
      go_ret
      exact ⟨rfl, HB4.out⟩
  · rw [if_neg hk] at h; exact absurd h (by simp)

end Go.Proofs.Ytcpiaahkjgdliaa.P

-- Written by a program of this session (wip/tools/hp.py) out of the translation.
import Derived.Test.YtbhccjoodlldbaaPx0
import Derived.Test.YtbhccjoodlldbaaPx13
import Derived.Test.YtbhccjoodlldbaaPx14
namespace Go.Proofs.Ytbhccjoodlldbaa.P
open Go.RowKit Go.Proofs.YtbhccjoodlldbaaW.PrintWords Go.Proofs.YtbhccjoodlldbaaW.PrintLast Go.Proofs.YtbhccjoodlldbaaW.PrintMore
attribute [local go_sem] max2_int min2_int max_two min_two max_three min_three max_four min_four   -- for this text's walks alone
set_option linter.unusedVariables false
set_option linter.unusedSimpArgs false

/-! ### cover_Runs: function 12 -/
/-- Where it turns. -/
def cr_run (v : Int → Int) : Nat → List Int
  | 0 => []
  | k + 1 => if k = 0 ∨ (decide (0 < v (k : Int)) != decide (0 < v ((k : Int) - 1))) = true then cr_run v k ++ [(k : Int)] else cr_run v k
def cr_pad (v : Int → Int) (i : Int) : Int := if 0 < v i then 1 else -1
def cr_seg (v : Int → Int) (k : Nat) : List S57 := (cr_run v k).map (fun i => ⟨i, cr_pad v i⟩)
theorem cr_len (v : Int → Int) : ∀ k, (cr_run v k).length ≤ k
  | 0 => Nat.le_refl _
  | k + 1 => by
    have := cr_len v k
    unfold cr_run
    split
    · rw [List.length_append, List.length_singleton]; omega
    · omega
theorem cr_last (v : Int → Int) : ∀ k : Nat, ∃ L i, cr_run v (k + 1) = L ++ [i] ∧ 0 ≤ i ∧ i ≤ (k : Int) ∧ (0 < v i ↔ 0 < v (k : Int))
  | 0 => ⟨[], 0, rfl, Int.le_refl _, Int.le_refl _, Iff.rfl⟩
  | k + 1 => by
    obtain ⟨L, i, h1, h2, h3, h4⟩ := cr_last v k
    rw [cr_run]
    split
    · exact ⟨_, _, rfl, by omega, Int.le_refl _, Iff.rfl⟩
    · rename_i hn
      have e1 : (((k + 1 : Nat) : Int) - 1) = (k : Int) := by omega
      rw [e1] at hn
      have e2 : decide (0 < v ((k + 1 : Nat) : Int)) = decide (0 < v (k : Int)) := by
        by_cases hh : decide (0 < v ((k + 1 : Nat) : Int)) = decide (0 < v (k : Int))
        · exact hh
        · exact absurd (Or.inr (by simpa using hh)) hn
      exact ⟨L, i, h1, h2, by omega, h4.trans (decide_eq_decide.1 e2).symm⟩
theorem cr_mark (v : Int → Int) (k : Nat) : ranges_Mark.of (cr_seg v k) (k : Int) (cr_pad v (k : Int)) = cr_seg v (k + 1) := by
  cases k with
  | zero => rfl
  | succ k =>
    obtain ⟨L, i, h1, h2, h3, h4⟩ := cr_last v k
    have hs : cr_seg v (k + 1) = L.map (fun i => (⟨i, cr_pad v i⟩ : S57)) ++ [⟨i, cr_pad v i⟩] := by unfold cr_seg; rw [h1, List.map_append]; rfl
    have hl : (cr_seg v (k + 1)).length = L.length + 1 := by rw [hs, List.length_append, List.length_map]; rfl
    have hr : rd_T57 (cr_seg v (k + 1)) (L.length : Int) = ⟨i, cr_pad v i⟩ := by
      unfold rd_T57
      rw [hs, Int.toNat_natCast, List.getD_eq_getElem?_getD, List.getElem?_append_right (by simp), List.length_map, Nat.sub_self]
      rfl
    unfold ranges_Mark.of
    rw [hl]
    dsimp only
    rw [hr]
    dsimp only
    have e1 : (((k + 1 : Nat) : Int) - 1) = (k : Int) := by omega
    rw [if_neg (by omega)]
    have hn : cr_seg v (k + 1 + 1) = if (decide (0 < v ((k + 1 : Nat) : Int)) != decide (0 < v (k : Int))) = true then cr_seg v (k + 1) ++ [⟨((k + 1 : Nat) : Int), cr_pad v ((k + 1 : Nat) : Int)⟩] else cr_seg v (k + 1) := by
      unfold cr_seg
      rw [cr_run, e1]
      by_cases hh : (decide (0 < v ((k + 1 : Nat) : Int)) != decide (0 < v (k : Int))) = true
      · rw [if_pos (Or.inr hh), if_pos hh, List.map_append]; rfl
      · rw [if_neg (by rintro (hx | hx); exact absurd hx (by omega); exact hh hx), if_neg hh]
    rw [hn]
    have hp : cr_pad v i = cr_pad v (k : Int) := by
      unfold cr_pad
      by_cases hx : 0 < v i
      · rw [if_pos hx, if_pos (h4.1 hx)]
      · rw [if_neg hx, if_neg (fun hy => hx (h4.2 hy))]
    rw [hp]
    unfold cr_pad
    by_cases hx : 0 < v (k : Int) <;> by_cases hy : 0 < v ((k + 1 : Nat) : Int)
    · rw [if_pos hx, if_pos hy, if_pos rfl, if_neg (by simp only [hx, hy, decide_true, bne_self_eq_false, Bool.false_eq_true, not_false_eq_true])]
    · rw [if_pos hx, if_neg hy, if_neg (by omega), if_pos (by simp only [hx, hy, decide_true, decide_false, Bool.bne_true, Bool.not_false])]
    · rw [if_neg hx, if_pos hy, if_neg (by omega), if_pos (by simp only [hx, hy, decide_true, decide_false, Bool.bne_false])]
    · rw [if_neg hx, if_neg hy, if_pos rfl, if_neg (by simp only [hx, hy, decide_false, bne_self_eq_false, Bool.false_eq_true, not_false_eq_true])]
theorem cr_seg_len (v : Int → Int) (k : Nat) : (cr_seg v k).length ≤ k := by unfold cr_seg; rw [List.length_map]; exact cr_len v k
theorem cr_seg_f0 (v : Int → Int) (k : Nat) : (cr_seg v k).map (fun s => s.f0) = cr_run v k := by unfold cr_seg; rw [List.map_map]; exact List.map_id _
def cover_Runs.f (l0 : List Int) : Option (List Int) := if l0.length ≤ 1000000 then some (cr_run (rd l0) l0.length) else none
set_option maxHeartbeats 4000000 in
set_option maxRecDepth 100000 in
theorem cover_Runs.calls (A0 : Option Addr) (c0 : Nat) (l0 : List Int) (r : List Int) (w : World) (hr0 : Kd.C (Kd.int .i64) w A0 l0.length l0) (hc0 : l0.length ≤ c0) (h : cover_Runs.f l0 = some r) :
    Calls Try.prog 12 #[.slice A0 l0.length c0] w fun e w' => ∃ v0_ : Value, e = .returned (v0_) ∧ Kd.R (Kd.int .i64) 3 w' w.heap.size (fun _ => True) v0_ r ∧ Below w.heap.size w w' := by
  unfold cover_Runs.f at h
  by_cases hl : l0.length ≤ 1000000
  · rw [if_pos hl] at h
    have HRES := Aside0.mk (Option.some.inj h)
    have HL := Aside0.mk hl
    have HR := Aside0.mk hr0
    clear h hr0 hc0
    have hlz : (l0.length : Int) ≤ 1000000 := by omega
    clear hl
    go_enter Try.func12, Try.ntmps12
    go_wp2_with (first | ((with_reducible refine gate_dst (N := 11) rfl ?_); refine box_event ?hg (N := 11) ?hd (cs := #[.slice none 0 0]) (t := 53) ?hr ?_; (case hd => rfl); (case hg => rfl); (case hr => first | (go_simp; done) | (go_simp; rfl)); intro g hgx w2 hbox hb; have HG : Aside0 (w.heap.size ≤ g) := ⟨by omega⟩; have HX2 := Aside0.mk hbox; have HB2 := Aside0.mk hb; clear hgx hbox hb))
    go_loopg [14] (l0.length + 1) (fun kx s14 wr => ∃ k : Nat, s14 = .int .i64 k ∧ Aside0 (k + kx = l0.length + 1 ∧ k ≤ l0.length) ∧ ∃ A c, Aside0 (ranges_Bld w wr g A c (cr_seg (rd l0) k)))
    case atStart => exact ⟨0, rfl, ⟨by omega, by omega⟩, none, 0, ⟨HX2.out, Kd.R_nil _ _ _ _ _, HB2.out, HG.out⟩⟩
    case round =>
      obtain ⟨k, rfl, HK, A, c, HO⟩ := hrel
      by_cases hk : k < l0.length
      · obtain ⟨ad, e, cx⟩ := Kd.at_int HR.out (k : Int) (by omega) (by omega)
        cases e
        rw [Int.toNat_natCast] at cx
        replace cx := pw_cell_below HO.out.2.2.1 cx
        have k0 : (0 : Int) ≤ (k : Int) := by omega
        have k1 : (k : Int) < (l0.length : Int) := by omega
        have HH := Aside0.mk hk
        clear hk
        by_cases hp : 0 < rd l0 (k : Int)
        · have HP : Aside0 (cr_pad (rd l0) (k : Int) = 1) := ⟨by unfold cr_pad; rw [if_pos hp]⟩
          generalize rd l0 (k : Int) = y at cx hp
          go_wp2_with (go_at_call 19; refine (ranges_Mark.does (k : Int) (1) HO.out (by have := cr_seg_len (rd l0) k; have := HL.out; have := HH.out; omega)).mono ?_; rintro e w5 ⟨rfl, A5, c5, h5⟩; have H5 := Aside0.mk h5; clear h5)
          go_roundg (l0.length - k)
          case measure => have := HK.out; have := HH.out; omega
          case rel => exact ⟨k + 1, by first | rfl | go_num, ⟨by have := HK.out; have := HH.out; omega, by have := HH.out; omega⟩, A5, c5, ⟨by rw [← cr_mark, HP.out]; exact H5.out⟩⟩
        · have HP : Aside0 (cr_pad (rd l0) (k : Int) = -1) := ⟨by unfold cr_pad; rw [if_neg hp]⟩
          generalize rd l0 (k : Int) = y at cx hp
          go_wp2_with (go_at_call 19; refine (ranges_Mark.does (k : Int) (-1) HO.out (by have := cr_seg_len (rd l0) k; have := HL.out; have := HH.out; omega)).mono ?_; rintro e w5 ⟨rfl, A5, c5, h5⟩; have H5 := Aside0.mk h5; clear h5)
          go_roundg (l0.length - k)
          case measure => have := HK.out; have := HH.out; omega
          case rel => exact ⟨k + 1, by first | rfl | go_num, ⟨by have := HK.out; have := HH.out; omega, by have := HH.out; omega⟩, A5, c5, ⟨by rw [← cr_mark, HP.out]; exact H5.out⟩⟩
      · have k1 : ¬ (k : Int) < (l0.length : Int) := by omega
        have hke : k = l0.length := by have := HK.out; omega
        have HF : Aside0 ((cr_seg (rd l0) l0.length).map (fun s => s.f0) = r ∧ (cr_seg (rd l0) l0.length).length ≤ 1000000) := ⟨by rw [cr_seg_f0]; exact HRES.out, by have := cr_seg_len (rd l0) l0.length; have := HL.out; omega⟩
        have HO3 : Aside0 (ranges_Bld w wr g A c (cr_seg (rd l0) l0.length)) := ⟨by rw [← hke]; exact HO.out⟩
        clear HO hke hk
        obtain ⟨L, hL⟩ : ∃ L, cr_seg (rd l0) l0.length = L := ⟨_, rfl⟩
        rw [hL] at HF HO3
        clear hL
        have hc := ranges_List.calls HO3.out HF.out.2
        have HC := Aside0.mk hc
        clear hc
        go_wp2_with (go_at_call 20; refine (HC.out).mono ?_; rintro e w3 ⟨v3, rfl, hR3, hB3⟩; obtain ⟨A3, c3, rfl⟩ := Kd.R_slice hR3; have HR3 := Aside0.mk (Kd.R_reads' hR3).2.2; have HB3 : Aside0 (Below w.heap.size w w3) := ⟨below_step HO3.out.2.2.1 hB3⟩; clear hR3 hB3)
        have hLz : (L.length : Int) ≤ 1000000 := by have := HF.out.2; omega
        go_loopg [7, 29] (L.length + 1) (fun kx s7 s29 wq => ∃ j : Nat, s29 = .int .i64 j ∧ Aside0 (j + kx = L.length + 1 ∧ j ≤ L.length) ∧ Aside0 (Kd.R (Kd.int .i64) 3 wq w3.heap.size (fun _ => True) s7 ((L.take j).map (fun s => s.f0))) ∧ Aside0 (Below w3.heap.size w3 wq))
        case atStart => exact ⟨0, rfl, ⟨by omega, by omega⟩, ⟨by rw [List.take_zero]; exact Kd.R_nil _ _ _ _ _⟩, ⟨Below.refl _ _⟩⟩
        case round =>
          clear HK HC
          obtain ⟨j, rfl, HK, HO, HBW⟩ := hrel
          by_cases hj : j < L.length
          · obtain ⟨ad, e, cx0, cx1⟩ := at_T57 HR3.out (j : Int) (by omega) (by omega)
            cases e
            rw [Int.toNat_natCast] at cx0 cx1
            replace cx0 := pw_cell_below HBW.out cx0
            replace cx1 := pw_cell_below HBW.out cx1
            have j0 : (0 : Int) ≤ (j : Int) := by omega
            have j1 : (j : Int) < (L.length : Int) := by omega
            have HH := Aside0.mk hj
            have htk : (L.take (j + 1)).map (fun s => s.f0) = (L.take j).map (fun s => s.f0) ++ [(rd_T57 L (j : Int)).f0] := by
              unfold rd_T57
              rw [List.take_add_one, List.getElem?_eq_getElem hj, List.map_append, Int.toNat_natCast, List.getD_eq_getElem?_getD, List.getElem?_eq_getElem hj]
              rfl
            have hlen : ((L.take j).map (fun s => s.f0)).length ≤ 1000000 := by rw [List.length_map, List.length_take]; have := HF.out.2; omega
            have HLN := Aside0.mk hlen
            clear hj hlen
            generalize (rd_T57 L (j : Int)).f0 = x0 at cx0 htk
            generalize (rd_T57 L (j : Int)).f1 = x1 at cx1
            have HT := Aside0.mk htk
            clear htk
            go_wp2_with (first | ((with_reducible refine gate_dst (N := 9) rfl ?_); refine box_event ?hg (N := 9) ?hd (cs := #[.int .i64 0, .int .i64 0]) (t := 57) ?hr ?_; (case hd => rfl); (case hg => rfl); (case hr => first | (go_simp; done) | (go_simp; rfl)); intro b9 hgx w9 hbox hb; have HG9 : Aside0 (w3.heap.size ≤ b9) := ⟨by have := HBW.out.size; omega⟩; have HX9 := Aside0.mk hbox; have HB9 := Aside0.mk (below_step HBW.out hb); have HO9 := Aside0.mk (Kd.R_below HO.out hb); have z0 := blk_cell hbox 0; have z1 := blk_cell hbox 1; have f0 := blk_frozen hbox 0; have f1 := blk_frozen hbox 1; clear hgx hbox hb HO HBW cx0 cx1) | ((with_reducible refine gate_builtin (b := .append) (xs := #[.tmp 33, .tmp 36]) rfl ?_); at_builtin; refine Kd.R_append (Kd.int .i64) (w0 := w3) w3.heap.size rfl (.tmp 33) (.tmp 36) 31 3 (.int .i64 0) 8 rfl Try.underlying31 info3 rfl (by decide) (by omega) u7 ((L.take j).map (fun s => s.f0)) x0 [.int .i64 x0] (fun _ => True) (fun _ => False) rfl ?aX ?aP (fun _ hk => hk.elim) ?aF ?aO ?aB ?aS ?aL ?_; (case aX => (rw [World.size_setCell, World.size_setCell]; rfl)); (case aP => exact rfl); (case aB => exact below_set (j := 1) (v := .int .i64 x1) (below_set (j := 0) (v := .int .i64 x0) HB9.out HG9.out) HG9.out); (case aF => exact (fun _ _ => trivial)); (case aO => exact Kd.R_set (Kd.R_set HO9.out HX9.out (by decide) 0 (.int .i64 x0)) (blk_set HX9.out 0 (.int .i64 x0)) (by decide) 1 (.int .i64 x1)); (case aS => exact (below_set (j := 1) (v := .int .i64 x1) (below_set (j := 0) (v := .int .i64 x0) HB9.out HG9.out) HG9.out).size); (case aL => have := HLN.out; omega); intro v168 w5 ho hb hg hat; have HO2 := Aside0.mk ho; have HB5 := Aside0.mk hb; clear ho hb hg hat))
            go_roundg (L.length - j)
            case measure => have := HK.out; have := HH.out; omega
            case rel => exact ⟨j + 1, by first | rfl | go_num, ⟨by have := HK.out; have := HH.out; omega, by have := HH.out; omega⟩, ⟨by rw [HT.out]; exact HO2.out⟩, HB5⟩
          · have j1 : ¬ (j : Int) < (L.length : Int) := by omega
            have hje : j = L.length := by have := HK.out; omega
            have HO3 : Aside0 (Kd.R (Kd.int .i64) 3 _ w.heap.size (fun _ => True) u7 r) := ⟨by have := HO.out; rw [hje, List.take_length, HF.out.1] at this; exact Kd.R_lower this HB3.out.size⟩
            clear HO hj hje
            go_wp2
            go_ret
            exact ⟨_, rfl, HO3.out, below_step HB3.out HBW.out⟩
  · rw [if_neg hl] at h
    exact absurd h (by simp)

end Go.Proofs.Ytbhccjoodlldbaa.P

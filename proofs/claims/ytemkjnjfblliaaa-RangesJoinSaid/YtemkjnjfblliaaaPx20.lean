-- Written by a program of this session (wip/tools/hp.py) out of the translation.
import Derived.Test.YtemkjnjfblliaaaPx0
import Derived.Test.YtemkjnjfblliaaaPx2
import Derived.Test.YtemkjnjfblliaaaPx5
import Derived.Test.YtemkjnjfblliaaaPx6
import Derived.Test.YtemkjnjfblliaaaPx8
import Derived.Test.YtemkjnjfblliaaaPx9
import Derived.Test.YtemkjnjfblliaaaPx11
import Derived.Test.YtemkjnjfblliaaaPx16
import Derived.Test.YtemkjnjfblliaaaPx17
import Derived.Test.YtemkjnjfblliaaaPx18
import Derived.Test.YtemkjnjfblliaaaPx19
namespace Go.Proofs.Ytemkjnjfblliaaa.P
open Go.RowKit Go.Proofs.YtemkjnjfblliaaaW.PrintWords Go.Proofs.YtemkjnjfblliaaaW.PrintLast Go.Proofs.YtemkjnjfblliaaaW.PrintMore
attribute [local go_sem] max2_int min2_int max_two min_two max_three min_three max_four min_four   -- for this text's walks alone
set_option linter.unusedVariables false
set_option linter.unusedSimpArgs false

/-! ### pascalinelaw16_RangesJoin: function 6 -/
/-- A segment so many words on. -/
def rj_sh (d : Int) (s : S29) : S29 := ⟨s.f0 + d, if s.f1 = -1 then -1 else s.f1 + d⟩
theorem rj_rd (l : List S29) (i : Nat) (h : i < l.length) : rd_T29 l (i : Int) = l[i] := by unfold rd_T29; rw [Int.toNat_natCast]; simp [List.getD_eq_getElem?_getD, h]
theorem rj_take (l : List S29) (i : Nat) (h : i < l.length) : l.take (i + 1) = l.take i ++ [rd_T29 l (i : Int)] := by rw [rj_rd l i h, List.take_succ_eq_append_getElem h]
set_option maxHeartbeats 4000000 in
set_option maxRecDepth 100000 in
theorem rj_Shift (A : Option Addr) (c : Nat) (l : List S29) (d : Int) (w : World) (hl : l.length ≤ 100) (hn : fq_Near l) (hd : -1000000 ≤ d ∧ d ≤ 1000000) (hC : Kd.C k29 w A l.length l) :
    Calls Try.prog 18 #[.slice A l.length c, .int .i64 d] w fun e w' => ∃ v : Value, e = .returned v ∧ Kd.R k29 29 w' w.heap.size (fun _ => True) v (l.map (rj_sh d)) ∧ Below w.heap.size w w' := by
  have HC := Aside0.mk hC
  have HN := Aside0.mk hn
  have hd0 : -1000000 ≤ d := hd.1
  have hd1 : d ≤ 1000000 := hd.2
  clear hC hn hd
  go_enter Try.func18, Try.ntmps18
  go_wp2
  go_loopg [5, 10] (l.length + 1) (fun kx v5 v10 wr => ∃ i : Nat, v10 = .int .i64 i ∧ Aside0 (i + kx = l.length + 1 ∧ i ≤ l.length) ∧ Aside0 (Kd.R k29 29 wr w.heap.size (fun _ => True) v5 ((l.take i).map (rj_sh d)) ∧ Below w.heap.size w wr))
  case atStart => exact ⟨0, rfl, ⟨⟨by omega, by omega⟩⟩, ⟨⟨Kd.R_nil _ _ _ _ _, Below.refl _ _⟩⟩⟩
  case round =>
    obtain ⟨i, rfl, I, HW⟩ := hrel
    by_cases hi : i < l.length
    · obtain ⟨ad, e, hx0, hx1⟩ := at_T29 HC.out (i : Int) (by omega) (by omega)
      cases e
      rw [Int.toNat_natCast] at hx0 hx1
      have hnr := HN.out (i : Int) (by omega) (by omega)
      have htk := rj_take l i hi
      generalize rd_T29 l (i : Int) = z at hx0 hx1 hnr htk
      obtain ⟨x, y⟩ := z
      dsimp only at hx0 hx1 hnr
      have HT := Aside0.mk htk
      clear htk
      replace hx0 := (HW.out.2.cell (World.block_lt_of_cell? w _ hx0)).trans hx0
      replace hx1 := (HW.out.2.cell (World.block_lt_of_cell? w _ hx1)).trans hx1
      have hi1 : (i : Int) < (l.length : Int) := by omega
      have hi0 : (0 : Int) ≤ (i : Int) := by omega
      have hi2 : (i : Int) ≤ 100 := by omega
      have hx2 : -1000000 ≤ x := hnr.1.1
      have hx3 : x ≤ 1000000 := hnr.1.2
      have hy2 : -1000000 ≤ y := hnr.2.1
      have hy3 : y ≤ 1000000 := hnr.2.2
      have HLL := Aside0.mk (show ((l.take i).map (rj_sh d)).length ≤ 100 from by rw [List.length_map, List.length_take]; omega)
      clear hnr
      by_cases hy : y = -1
      · have hyb : (y == -1) = true := beq_iff_eq.mpr hy
        have hyn : (y != -1) = false := bne_eq_false_iff_eq.mpr hy
        have HE := Aside0.mk (show rj_sh d ⟨x, y⟩ = ⟨x + d, y⟩ from by unfold rj_sh; simp [hy])
        clear hy
        go_wp2_with ((with_reducible refine gate_builtin (b := .append) (xs := #[.tmp 27, .tmp 29]) rfl ?_); at_builtin; refine Kd.R_append k29 (w0 := w) w.heap.size rfl (.tmp 27) (.tmp 29) 22 29 (.agg #[(.int .i64 0), (.int .i64 0)]) 16 rfl Try.underlying22 info29 rfl (by decide) (by omega) _ ((l.take i).map (rj_sh d)) (⟨x + d, y⟩ : S29) [.int .i64 (x + d), .int .i64 y] (fun _ => True) (fun _ => False) rfl (by first | rfl | (go_simp; done) | (go_simp; rfl)) ?aP (fun _ hk => hk.elim) ?aF ?aO ?aB ?aS ?aL ?_; (case aP => exact k29_mkM _ _ _ (⟨x + d, y⟩ : S29)); (case aB => exact below_alloc HW.out.2 _); (case aF => exact (fun _ _ => trivial)); (case aO => exact Kd.R_alloc HW.out.1 _); (case aS => exact (below_alloc HW.out.2 _).size); (case aL => have := HLL.out; omega); intro v1 w1 ho hb hgr hat; have HW2 := Aside0.mk (And.intro ho hb); clear ho hb hgr hat)
        go_roundg (l.length - i)
        case measure => have := I.out; omega
        case rel => exact ⟨i + 1, by first | rfl | (simp; done), ⟨by have := I.out; omega⟩, ⟨by rw [HT.out, List.map_append, List.map_singleton, HE.out]; exact HW2.out⟩⟩
      · have hyb : (y == -1) = false := beq_eq_false_iff_ne.mpr hy
        have hyn : (y != -1) = true := bne_iff_ne.mpr hy
        have HE := Aside0.mk (show rj_sh d ⟨x, y⟩ = ⟨x + d, y + d⟩ from by unfold rj_sh; simp [hy])
        clear hy
        go_wp2_with ((with_reducible refine gate_builtin (b := .append) (xs := #[.tmp 27, .tmp 29]) rfl ?_); at_builtin; refine Kd.R_append k29 (w0 := w) w.heap.size rfl (.tmp 27) (.tmp 29) 22 29 (.agg #[(.int .i64 0), (.int .i64 0)]) 16 rfl Try.underlying22 info29 rfl (by decide) (by omega) _ ((l.take i).map (rj_sh d)) (⟨x + d, y + d⟩ : S29) [.int .i64 (x + d), .int .i64 (y + d)] (fun _ => True) (fun _ => False) rfl (by first | rfl | (go_simp; done) | (go_simp; rfl)) ?aP (fun _ hk => hk.elim) ?aF ?aO ?aB ?aS ?aL ?_; (case aP => exact k29_mkM _ _ _ (⟨x + d, y + d⟩ : S29)); (case aB => exact below_alloc HW.out.2 _); (case aF => exact (fun _ _ => trivial)); (case aO => exact Kd.R_alloc HW.out.1 _); (case aS => exact (below_alloc HW.out.2 _).size); (case aL => have := HLL.out; omega); intro v1 w1 ho hb hgr hat; have HW2 := Aside0.mk (And.intro ho hb); clear ho hb hgr hat)
        go_roundg (l.length - i)
        case measure => have := I.out; omega
        case rel => exact ⟨i + 1, by first | rfl | (simp; done), ⟨by have := I.out; omega⟩, ⟨by rw [HT.out, List.map_append, List.map_singleton, HE.out]; exact HW2.out⟩⟩
    · have hi1 : decide ((i : Int) < (l.length : Int)) = false := decide_eq_false (by omega)
      have HI := Aside0.mk (show i = l.length by have := I.out; omega)
      go_wp2
      go_ret
      exact ⟨_, rfl, by have h := HW.out.1; rw [HI.out, List.take_length] at h; exact h, HW.out.2⟩
/-- The rows behind many calls of Mark. -/
def rj_marks (L : List S29) (l : List S29) : List S29 := l.foldl (fun L s => ranges_Mark.of L s.f0 s.f1) L
theorem rj_marks_snoc (L l : List S29) (s : S29) : rj_marks L (l ++ [s]) = ranges_Mark.of (rj_marks L l) s.f0 s.f1 := by unfold rj_marks; rw [List.foldl_append]; rfl
theorem rj_marks_len (L l : List S29) : (rj_marks L l).length ≤ L.length + l.length := by
  induction l generalizing L with
  | nil => exact Nat.le_refl _
  | cons s l ih =>
    have h1 := ih (ranges_Mark.of L s.f0 s.f1)
    have h2 := ranges_Mark.of_len L s.f0 s.f1
    show (rj_marks (ranges_Mark.of L s.f0 s.f1) l).length ≤ _
    rw [List.length_cons]; omega
def rj_all (ls : List (List S29)) : List S29 := ls.foldl rj_marks []
theorem rj_all_snoc (ls : List (List S29)) (l : List S29) : rj_all (ls ++ [l]) = rj_marks (rj_all ls) l := by unfold rj_all; rw [List.foldl_append]; rfl
theorem rj_rd2 (l : List (List S29)) (i : Nat) (h : i < l.length) : rd_L2 l (i : Int) = l[i] := by unfold rd_L2; rw [Int.toNat_natCast]; simp [List.getD_eq_getElem?_getD, h]
theorem rj_all_len (ls : List (List S29)) (h : ∀ l ∈ ls, l.length ≤ 100) : ∀ i, i ≤ ls.length → (rj_all (ls.take i)).length ≤ 100 * i := by
  intro i
  induction i with
  | zero => intro _; simp [rj_all]
  | succ i ih =>
    intro hi
    rw [List.take_succ_eq_append_getElem (show i < ls.length by omega), rj_all_snoc]
    have h1 := rj_marks_len (rj_all (ls.take i)) ls[i]
    have h2 := h _ (List.getElem_mem (show i < ls.length by omega))
    have h3 := ih (by omega)
    omega
set_option maxHeartbeats 4000000 in
set_option maxRecDepth 100000 in
theorem rj_Join (A : Option Addr) (c : Nat) (ls : List (List S29)) (w : World) (hl : ls.length ≤ 10) (hls : ∀ l ∈ ls, l.length ≤ 100) (hC : Kd.C (Kd.slice 29 k29) w A ls.length ls) :
    Calls Try.prog 22 #[.slice A ls.length c] w fun e w' => ∃ v : Value, e = .returned v ∧ Kd.R k29 29 w' w.heap.size (fun _ => True) v (rj_all ls) ∧ Below w.heap.size w w' := by
  have HC := Aside0.mk hC
  have HLS := Aside0.mk hls
  have HLN := Aside0.mk (rj_all_len ls hls)
  clear hC hls
  go_enter Try.func22, Try.ntmps22
  go_wp2
  go_loopg [12] (ls.length + 1) (fun kx v12 wr => ∃ i : Nat, v12 = .int .i64 i ∧ Aside0 (i + kx = ls.length + 1 ∧ i ≤ ls.length) ∧ Aside0 (∃ A' c', ranges_Bld w wr w.heap.size A' c' (rj_all (ls.take i))))
  case atStart => exact ⟨0, rfl, ⟨⟨by omega, by omega⟩⟩, ⟨⟨none, 0, ranges_Bld.new w w (Below.refl _ _)⟩⟩⟩
  case round =>
    obtain ⟨i, rfl, I, HW⟩ := hrel
    obtain ⟨A', c', hbl⟩ := HW.out
    by_cases hi : i < ls.length
    · obtain ⟨ad, Ai, ci, e, hx, hci, hCi⟩ := at_L2 HC.out (i : Int) (by omega) (by omega)
      cases e
      rw [Int.toNat_natCast] at hx
      have htk : ls.take (i + 1) = ls.take i ++ [rd_L2 ls (i : Int)] := by rw [rj_rd2 ls i hi, List.take_succ_eq_append_getElem hi]
      have hlm : (rd_L2 ls (i : Int)).length ≤ 100 := by rw [rj_rd2 ls i hi]; exact HLS.out _ (List.getElem_mem _)
      have hln := HLN.out i (by omega)
      generalize rd_L2 ls (i : Int) = l at hx hci hCi htk hlm
      have HT := Aside0.mk htk
      have HCI := Aside0.mk hCi
      have HLL := Aside0.mk (And.intro hlm hln)
      have HB0 := Aside0.mk hbl
      replace hx := (hbl.2.2.1.cell (World.block_lt_of_cell? w _ hx)).trans hx
      have hi1 : (i : Int) < (ls.length : Int) := by omega
      have hi0 : (0 : Int) ≤ (i : Int) := by omega
      have hi2 : (i : Int) ≤ 10 := by omega
      clear htk hCi hbl hln HW
      go_wp2
      go_loopg [18] (l.length + 1) (fun kx v18 wr => ∃ j : Nat, v18 = .int .i64 j ∧ Aside0 (j + kx = l.length + 1 ∧ j ≤ l.length) ∧ Aside0 (∃ A' c', ranges_Bld w wr w.heap.size A' c' (rj_marks (rj_all (ls.take i)) (l.take j))))
      case atStart => exact ⟨0, rfl, ⟨⟨by omega, by omega⟩⟩, ⟨⟨A', c', HB0.out⟩⟩⟩
      case round =>
        obtain ⟨j, rfl, J, HJ⟩ := hrel
        obtain ⟨A2, c2, hbl⟩ := HJ.out
        by_cases hj : j < l.length
        · obtain ⟨adl, e2, hy0, hy1⟩ := at_T29 HCI.out (j : Int) (by omega) (by omega)
          cases e2
          rw [Int.toNat_natCast] at hy0 hy1
          have htj := rj_take l j hj
          generalize rd_T29 l (j : Int) = z at hy0 hy1 htj
          obtain ⟨x, y⟩ := z
          dsimp only at hy0 hy1
          have HTJ := Aside0.mk htj
          replace hy0 := (hbl.2.2.1.cell (World.block_lt_of_cell? w _ hy0)).trans hy0
          replace hy1 := (hbl.2.2.1.cell (World.block_lt_of_cell? w _ hy1)).trans hy1
          have hj1 : (j : Int) < (l.length : Int) := by omega
          have hj0 : (0 : Int) ≤ (j : Int) := by omega
          have hj2 : (j : Int) ≤ 100 := by omega
          have hmk := rj_marks_len (rj_all (ls.take i)) (l.take j)
          rw [List.length_take] at hmk
          have HMK := Aside0.mk hmk
          have HB1 := Aside0.mk hbl
          clear htj hbl hmk HJ
          go_wp2_with (go_at_call 9; ((with_reducible refine (ranges_Mark.does x y (HB1.out.below (below_alloc (Below.refl _ _) _)) (by have := HMK.out; have := HLL.out; omega)).mono ?_)); rintro e wm ⟨rfl, A5, c5, hb⟩; have HB5 := Aside0.mk hb; clear hb)
          go_roundg (l.length - j)
          case measure => have := J.out; omega
          case rel => exact ⟨j + 1, by first | rfl | (simp; done), ⟨by have := J.out; omega⟩, ⟨⟨A5, c5, by rw [HTJ.out, rj_marks_snoc]; exact HB5.out⟩⟩⟩
        · have hj1 : decide ((j : Int) < (l.length : Int)) = false := decide_eq_false (by omega)
          have HJL := Aside0.mk (show j = l.length by have := J.out; omega)
          have HB1 := Aside0.mk hbl
          clear hbl HJ
          go_wp2
          go_roundg (ls.length - i)
          case measure => have := I.out; omega
          case rel => exact ⟨i + 1, by first | rfl | (simp; done), ⟨by have := I.out; omega⟩, ⟨⟨A2, c2, by have h := HB1.out; rw [HJL.out, List.take_length] at h; rw [HT.out, rj_all_snoc]; exact h⟩⟩⟩
    · have hi1 : decide ((i : Int) < (ls.length : Int)) = false := decide_eq_false (by omega)
      have HI := Aside0.mk (show i = ls.length by have := I.out; omega)
      have HB1 := Aside0.mk hbl
      have hcg := cell_of_one hbl.1
      clear hbl HW
      go_wp2
      go_ret
      exact ⟨_, rfl, by have h := HB1.out.2.1; rw [HI.out, List.take_length] at h; rw [HI.out, List.take_length]; exact h, HB1.out.2.2.1⟩
/-! What the reference answers. -/
theorem rj_ref_shift (l : List S29) (d : Int) (hl : l.length ≤ 100) (hn : fq_Near l) (hd : -1000000 ≤ d ∧ d ≤ 1000000) (m : Nat) : ∀ (k i : Nat), i ≤ l.length → l.length - i = m → m < k → pascalineref16_Shift.l0 k l d ((l.take i).map (rj_sh d)) (i : Int) = some (l.map (rj_sh d)) := by
  induction m with
  | zero =>
    intro k i hi hm hk
    obtain ⟨k, rfl⟩ : ∃ m, k = m + 1 := ⟨k - 1, by omega⟩
    simp only [pascalineref16_Shift.l0]
    rw [if_neg (by omega), List.take_of_length_le (by omega)]
  | succ m ih =>
    intro k i hi hm hk
    obtain ⟨k, rfl⟩ : ∃ m, k = m + 1 := ⟨k - 1, by omega⟩
    have hnr := hn (i : Int) (by omega) (by omega)
    have hih := ih k (i + 1) (by omega) (by omega) (by omega)
    rw [rj_take l i (by omega), List.map_append, List.map_singleton] at hih
    have hlen : ((l.take i).map (rj_sh d)).length ≤ 100 := by rw [List.length_map, List.length_take]; omega
    simp only [pascalineref16_Shift.l0]
    generalize rd_T29 l (i : Int) = z at *
    obtain ⟨x, y⟩ := z
    dsimp only at *
    have hw : ∀ n : Int, -10000000 ≤ n ∧ n ≤ 10000000 → wrap64 n = n := fun n hn => by unfold wrap64; omega
    rw [if_pos (by omega), if_pos (by omega), hw (x + d) (by omega), hw (y + d) (by omega), hw ((i : Int) + 1) (by omega), show ((i : Int) + 1) = ((i + 1 : Nat) : Int) by omega]
    unfold rj_sh at hih ⊢
    dsimp only at hih ⊢
    by_cases h1 : y = -1
    · rw [if_pos h1] at hih ⊢
      rw [if_pos (by unfold rj_sh at hlen; omega), h1]
      exact hih
    · rw [if_neg h1] at hih ⊢
      rw [if_pos (by unfold rj_sh at hlen; omega)]
      exact hih
def rj_end (l : List S29) (s : Int) (i : Nat) : Int := if (i : Int) + 1 < (l.length : Int) then mn s (rd_T29 l ((i : Int) + 1)).f0 else s
def rj_stp (l : List S29) (s : Int) (i : Nat) (n : Int) : Int := if (rd_T29 l (i : Int)).f1 = -1 then n else if rj_end l s i > (rd_T29 l (i : Int)).f0 then n + (rj_end l s i - (rd_T29 l (i : Int)).f0) else n
theorem rj_cov_one (l : List S29) (s n : Int) (i k : Nat) (hl : l.length ≤ 100) (hn : fq_Near l) (hs : s ≤ 1000000) (hs2 : -9223372036854775808 ≤ s) (hi : i < l.length) (h0 : 0 ≤ n) (h1 : n ≤ 1000000000) :
    ranges_Covered.l0 (k + 1) l s n l (l.length : Int) (i : Int) = ranges_Covered.l0 k l s (rj_stp l s i n) l (l.length : Int) ((i + 1 : Nat) : Int) := by
  have hw : ∀ n : Int, -9223372036854775808 ≤ n ∧ n ≤ 9223372036854775807 → wrap64 n = n := fun n hn => by unfold wrap64; omega
  have hnr := hn (i : Int) (by omega) (by omega)
  unfold rj_stp rj_end
  simp only [ranges_Covered.l0]
  rw [if_pos (by omega), if_pos (by omega), if_pos (by omega), hw ((i : Int) + 1) (by omega), show ((i + 1 : Nat) : Int) = (i : Int) + 1 by omega]
  by_cases c1 : (i : Int) + 1 < (l.length : Int)
  · have hnr2 := hn ((i : Int) + 1) (by omega) c1
    rw [if_pos c1, if_pos (by omega), if_pos c1]
    have hmn : mn s (rd_T29 l ((i : Int) + 1)).f0 ≤ 1000000 := by unfold mn; split <;> omega
    generalize mn s (rd_T29 l ((i : Int) + 1)).f0 = e at hmn ⊢
    by_cases c2 : (rd_T29 l (i : Int)).f1 = -1
    · rw [if_pos c2, if_pos c2]
    · rw [if_neg c2, if_neg c2]
      by_cases c3 : e > (rd_T29 l (i : Int)).f0
      · rw [if_pos c3, if_pos c3, hw (e - (rd_T29 l (i : Int)).f0) (by omega), hw (n + (e - (rd_T29 l (i : Int)).f0)) (by omega)]
      · rw [if_neg c3, if_neg c3]
  · rw [if_neg c1, if_neg c1]
    by_cases c2 : (rd_T29 l (i : Int)).f1 = -1
    · rw [if_pos c2, if_pos c2]
    · rw [if_neg c2, if_neg c2]
      by_cases c3 : s > (rd_T29 l (i : Int)).f0
      · rw [if_pos c3, if_pos c3, hw (s - (rd_T29 l (i : Int)).f0) (by omega), hw (n + (s - (rd_T29 l (i : Int)).f0)) (by omega)]
      · rw [if_neg c3, if_neg c3]
theorem rj_stp_le (l : List S29) (s n : Int) (i : Nat) (hn : fq_Near l) (hs : s ≤ 1000000) (hi : i < l.length) (h0 : 0 ≤ n) : 0 ≤ rj_stp l s i n ∧ rj_stp l s i n ≤ n + 2000000 := by
  have hnr := hn (i : Int) (by omega) (by omega)
  have he : rj_end l s i ≤ 1000000 := by unfold rj_end mn; split <;> (try split) <;> omega
  unfold rj_stp
  split
  · omega
  · split <;> omega
theorem rj_ref_one (l : List S29) (s n : Int) (i k : Nat) (hl : l.length ≤ 100) (hn : fq_Near l) (hs : s ≤ 1000000) (hs2 : -9223372036854775808 ≤ s) (hi : i < l.length) (h0 : 0 ≤ n) (h1 : n ≤ 1000000000) :
    pascalineref16_Covered.l0 (k + 2) l s n (i : Int) = pascalineref16_Covered.l0 k l s (rj_stp l s i n) ((i + 1 : Nat) : Int) := by
  have hw : ∀ n : Int, -9223372036854775808 ≤ n ∧ n ≤ 9223372036854775807 → wrap64 n = n := fun n hn => by unfold wrap64; omega
  have hnr := hn (i : Int) (by omega) (by omega)
  have hp : (i : Int) < (l.length : Int) := by omega
  have hp0 : 0 ≤ (i : Int) := by omega
  unfold rj_stp rj_end
  simp only [pascalineref16_Covered.l0]
  rw [if_pos hp, hw ((i : Int) + 1) (by omega), show ((i + 1 : Nat) : Int) = (i : Int) + 1 by omega]
  by_cases c1 : (i : Int) + 1 < (l.length : Int)
  · have hnr2 := hn ((i : Int) + 1) (by omega) c1
    have hp1 : 0 ≤ (i : Int) + 1 := by omega
    rw [if_pos c1, if_pos hp1, if_pos c1]
    simp only [pascalineref16_Covered.j1]
    rw [hw ((i : Int) + 1) (by omega)]
    unfold mn
    by_cases c4 : (rd_T29 l ((i : Int) + 1)).f0 < s
    · rw [if_pos (decide_eq_true c4), if_pos hp1, if_pos c1, if_pos hp0, if_pos hp, if_pos c4]
      by_cases c2 : (rd_T29 l (i : Int)).f1 = -1
      · rw [if_pos c2, if_pos c2]
      · rw [if_neg c2, if_neg c2]
        by_cases c3 : (rd_T29 l ((i : Int) + 1)).f0 > (rd_T29 l (i : Int)).f0
        · rw [if_pos c3, if_pos c3, hw (n + (rd_T29 l ((i : Int) + 1)).f0) (by omega), hw (n + (rd_T29 l ((i : Int) + 1)).f0 - (rd_T29 l (i : Int)).f0) (by omega)]
          congr 1; omega
        · rw [if_neg c3, if_neg c3]
    · rw [if_neg (by simpa using c4), if_pos hp0, if_pos hp, if_neg c4]
      by_cases c2 : (rd_T29 l (i : Int)).f1 = -1
      · rw [if_pos c2, if_pos c2]
      · rw [if_neg c2, if_neg c2]
        by_cases c3 : s > (rd_T29 l (i : Int)).f0
        · rw [if_pos c3, if_pos c3, hw (n + s) (by omega), hw (n + s - (rd_T29 l (i : Int)).f0) (by omega)]
          congr 1; omega
        · rw [if_neg c3, if_neg c3]
  · rw [if_neg c1, if_neg c1]
    simp only [pascalineref16_Covered.j1]
    rw [hw ((i : Int) + 1) (by omega), if_neg (by simp), if_pos hp0, if_pos hp]
    by_cases c2 : (rd_T29 l (i : Int)).f1 = -1
    · rw [if_pos c2, if_pos c2]
    · rw [if_neg c2, if_neg c2]
      by_cases c3 : s > (rd_T29 l (i : Int)).f0
      · rw [if_pos c3, if_pos c3, hw (n + s) (by omega), hw (n + s - (rd_T29 l (i : Int)).f0) (by omega)]
        congr 1; omega
      · rw [if_neg c3, if_neg c3]
theorem rj_cov (l : List S29) (s : Int) (hl : l.length ≤ 100) (hn : fq_Near l) (hs : s ≤ 1000000) (hs2 : -9223372036854775808 ≤ s) (m : Nat) : ∀ (k i : Nat) (n : Int), i ≤ l.length → l.length - i = m → 2 * m < k → 0 ≤ n → n ≤ 2000000 * i →
    ∃ r, ranges_Covered.l0 k l s n l (l.length : Int) (i : Int) = some r ∧ pascalineref16_Covered.l0 k l s n (i : Int) = some r := by
  induction m with
  | zero =>
    intro k i n hi hm hk h0 h1
    obtain ⟨k, rfl⟩ : ∃ m, k = m + 1 := ⟨k - 1, by omega⟩
    exact ⟨n, by simp only [ranges_Covered.l0]; rw [if_neg (by omega)], by simp only [pascalineref16_Covered.l0]; rw [if_neg (by omega)]⟩
  | succ m ih =>
    intro k i n hi hm hk h0 h1
    obtain ⟨k, rfl⟩ : ∃ m, k = m + 2 := ⟨k - 2, by omega⟩
    have hst := rj_stp_le l s n i hn hs (by omega) h0
    obtain ⟨r, h2, h3⟩ := ih k (i + 1) (rj_stp l s i n) (by omega) (by omega) (by omega) hst.1 (by omega)
    refine ⟨r, ?_, ?_⟩
    · rw [rj_cov_one l s n i (k + 1) hl hn hs hs2 (by omega) h0 (by omega)]
      exact ranges_Covered.mono_l k _ _ _ _ _ _ r h2
    · rw [rj_ref_one l s n i k hl hn hs hs2 (by omega) h0 (by omega)]; exact h3
theorem rj_ref_inner (ls : List (List S29)) (i : Nat) (hi : i < ls.length) (L0 l : List S29) (hl : rd_L2 ls (i : Int) = l) (hb : L0.length + l.length ≤ 900) (hls : ls.length ≤ 10) (d : Nat) : ∀ (k' j : Nat), j ≤ l.length → l.length - j = d → 1 ≤ k' → pascalineref16_Join.l1 (d + 1 + k') ls (rj_marks L0 (l.take j)) (i : Int) (j : Int) = pascalineref16_Join.l0 k' ls (rj_marks L0 l) ((i + 1 : Nat) : Int) := by
  induction d with
  | zero =>
    intro k' j hj hd hk
    rw [show 0 + 1 + k' = k' + 1 by omega]
    simp only [pascalineref16_Join.l1]
    rw [if_pos (by omega), if_pos (by omega), hl, if_neg (by omega), List.take_of_length_le (by omega), ranges_Mark.wrap_up (by omega) (by omega), show ((i : Int) + 1) = ((i + 1 : Nat) : Int) by omega]
  | succ d ih =>
    intro k' j hj hd hk
    have hm := rj_marks_len L0 (l.take j)
    rw [List.length_take] at hm
    rw [show d + 1 + 1 + k' = (d + 1 + k') + 1 by omega]
    simp only [pascalineref16_Join.l1]
    rw [if_pos (by omega), if_pos (by omega), hl, if_pos (by omega), if_pos (by omega), ranges_Mark.ref (d + 1 + k') (by omega) _ _ _ (by omega)]
    simp only [Option.bind_some]
    rw [ranges_Mark.wrap_up (by omega) (by omega), show ((j : Int) + 1) = ((j + 1 : Nat) : Int) by omega, ← ih k' (j + 1) (by omega) (by omega) hk, rj_take l j (by omega), rj_marks_snoc]
theorem rj_ref_join (ls : List (List S29)) (hl : ls.length ≤ 5) (hls : ∀ l ∈ ls, l.length ≤ 100) (m : Nat) : ∀ (k i : Nat), i ≤ ls.length → ls.length - i = m → 102 * m + 2 ≤ k → pascalineref16_Join.l0 k ls (rj_all (ls.take i)) (i : Int) = some (rj_all ls) := by
  induction m with
  | zero =>
    intro k i hi hm hk
    obtain ⟨k, rfl⟩ : ∃ m, k = m + 1 := ⟨k - 1, by omega⟩
    simp only [pascalineref16_Join.l0]
    rw [if_neg (by omega), List.take_of_length_le (by omega)]
  | succ m ih =>
    intro k i hi hm hk
    have hlen := hls _ (List.getElem_mem (show i < ls.length by omega))
    have hal := rj_all_len ls hls i hi
    obtain ⟨k', hk'⟩ : ∃ k', k = (ls[i].length + 1 + k') + 1 := ⟨k - ls[i].length - 2, by omega⟩
    rw [hk']
    simp only [pascalineref16_Join.l0]
    rw [if_pos (by omega)]
    have h := rj_ref_inner ls i (by omega) (rj_all (ls.take i)) ls[i] (rj_rd2 ls i (by omega)) (by omega) (by omega) ls[i].length k' 0 (by omega) (by omega) (by omega)
    rw [List.take_zero, show rj_marks (rj_all (ls.take i)) [] = rj_all (ls.take i) from rfl, show ((0 : Nat) : Int) = 0 from rfl] at h
    rw [h, ← rj_all_snoc, ← List.take_succ_eq_append_getElem (show i < ls.length by omega)]
    exact ih k' (i + 1) (by omega) (by omega) (by omega)
theorem rj_two (W : World) (A0 : Option Addr) (c0 : Nat) (a : List S29) (A1 : Option Addr) (c1 : Nat) (b : List S29) (h0 : Kd.C k29 W A0 a.length a) (hc0 : a.length ≤ c0) (h1 : Kd.C k29 W A1 b.length b) (hc1 : b.length ≤ c1) :
    Kd.C (Kd.slice 29 k29) (W.alloc (.cells #[.slice A0 a.length c0, .slice A1 b.length c1] 22)) (some ⟨W.heap.size, 0, none⟩) [a, b].length [a, b] := by
  refine ⟨rfl, by simp, fun _ => ⟨_, rfl, fun j p hj => ?_⟩⟩
  match j, hj with
  | 0, hj =>
    simp at hj; subst hj
    refine ⟨_, rfl, ⟨A0, c0, rfl, hc0, Kd.C_alloc h0 _⟩, fun i u hu => ?_⟩
    match i, hu with
    | 0, hu => simp at hu; subst hu; exact (blk_cell (blk_new W _) 0).trans rfl
  | 1, hj =>
    simp at hj; subst hj
    refine ⟨_, rfl, ⟨A1, c1, rfl, hc1, Kd.C_alloc h1 _⟩, fun i u hu => ?_⟩
    match i, hu with
    | 0, hu => simp at hu; subst hu; exact (blk_cell (blk_new W _) 1).trans rfl
def pascalinelaw16_RangesJoin.f (k : Nat) (l0 l1 : List S29) (by_ size : Int) : Option Bool := (pascalinelaw16_few.f k l0).bind fun b => (pascalinelaw16_few.f k l1).bind fun b2 => if 3000 ≤ k ∧ -9223372036854775808 ≤ size then some true else none
set_option maxHeartbeats 8000000 in
set_option maxRecDepth 100000 in
theorem pascalinelaw16_RangesJoin.calls (k : Nat) (A0 : Option Addr) (c0 : Nat) (l0 : List S29) (A1 : Option Addr) (c1 : Nat) (l1 : List S29) (by_ : Int) (size : Int) (r : Bool) (w : World) (hr0 : Kd.C k29 w A0 l0.length l0) (hc0 : l0.length ≤ c0) (hr1 : Kd.C k29 w A1 l1.length l1) (hc1 : l1.length ≤ c1) (h : pascalinelaw16_RangesJoin.f k l0 l1 by_ size = some r) :
    Calls Try.prog 6 #[.slice A0 l0.length c0, .slice A1 l1.length c1, .agg #[.int .i64 by_, .int .i64 size]] w fun e w' => e = .returned (.bool r) ∧ Below w.heap.size w w' := by
  unfold pascalinelaw16_RangesJoin.f at h
  cases hf0 : pascalinelaw16_few.f k l0 with
  | none => rw [hf0] at h; exact absurd h (by simp)
  | some b0 =>
  cases hf1 : pascalinelaw16_few.f k l1 with
  | none => rw [hf0, hf1] at h; exact absurd h (by simp)
  | some b1 =>
    rw [hf0, hf1] at h
    simp only [Option.bind_some] at h
    by_cases hk : 3000 ≤ k ∧ -9223372036854775808 ≤ size
    · rw [if_pos hk] at h
      obtain rfl : r = true := by injection h with h; exact h.symm
      obtain ⟨hk, hsz⟩ := hk
      have HF0 := Aside0.mk hf0
      have HF1 := Aside0.mk hf1
      have H0 := Aside0.mk (And.intro hr0 hc0)
      have H1 := Aside0.mk (And.intro hr1 hc1)
      have HW := Aside0.mk (show ∀ W, Below (w.alloc (.cells #[.int .i64 by_, .int .i64 size] 36)).heap.size (w.alloc (.cells #[.int .i64 by_, .int .i64 size] 36)) W → W.cell? ⟨w.heap.size, 0, none⟩ = some (.int .i64 by_) ∧ W.cell? ⟨w.heap.size, 1, none⟩ = some (.int .i64 size) from fun W hW => by
        have hb := (hW.block w.heap.size (by simp)).trans (blk_new w _)
        exact ⟨(blk_cell hb 0).trans rfl, (blk_cell hb 1).trans rfl⟩)
      have HWB := Aside0.mk (below_alloc (Below.refl w.heap.size w) (.cells #[.int .i64 by_, .int .i64 size] 36))
      cases b0
      · clear hf0 hf1 hr0 hc0 hr1 hc1 h hk hsz
        go_enter Try.func6, Try.ntmps6
        go_wp2_with (go_at_call 7; ((with_reducible refine (pascalinelaw16_awake.calls true _ rfl).mono ?_)); rintro e w1 ⟨rfl, hb⟩; have HB1 := Aside0.mk hb; have hx := (HW.out _ hb).1; have hy := (HW.out _ hb).2; clear hb)
        go_region
        have HB := Aside0.mk (show Below w.heap.size w w1.drew from below_drew1 (HWB.out.trans (HB1.out.mono (by simp))))
        generalize w1.drew = w1d at HB ⊢
        clear hx hy HB1
        go_wp2_with (first | (go_at_call 8; ((with_reducible refine (pascalinelaw16_few.calls k A0 c0 l0 false _ (Kd.C_below H0.out.1 HB.out) H0.out.2 HF0.out).mono ?_)); rintro e w2 ⟨rfl, hb⟩; have HB2 := Aside0.mk (below_step HB.out hb); clear hb))
        go_ret
        exact ⟨rfl, HB2.out⟩
      cases b1
      · clear hf0 hf1 hr0 hc0 hr1 hc1 h hk hsz
        go_enter Try.func6, Try.ntmps6
        go_wp2_with (go_at_call 7; ((with_reducible refine (pascalinelaw16_awake.calls true _ rfl).mono ?_)); rintro e w1 ⟨rfl, hb⟩; have HB1 := Aside0.mk hb; have hx := (HW.out _ hb).1; have hy := (HW.out _ hb).2; clear hb)
        go_region
        have HB := Aside0.mk (show Below w.heap.size w w1.drew from below_drew1 (HWB.out.trans (HB1.out.mono (by simp))))
        generalize w1.drew = w1d at HB ⊢
        clear hx hy HB1
        go_wp2_with (first | (go_at_call 8; ((with_reducible refine (pascalinelaw16_few.calls k A0 c0 l0 true _ (Kd.C_below H0.out.1 HB.out) H0.out.2 HF0.out).mono ?_)); rintro e w2 ⟨rfl, hb⟩; have HB2 := Aside0.mk (below_step HB.out hb); clear hb) | (go_at_call 8; ((with_reducible refine (pascalinelaw16_few.calls k A1 c1 l1 false _ (Kd.C_below H1.out.1 HB2.out) H1.out.2 HF1.out).mono ?_)); rintro e w3 ⟨rfl, hb⟩; have HB3 := Aside0.mk (below_step HB2.out hb); clear hb))
        go_ret
        exact ⟨rfl, HB3.out⟩
      by_cases g1 : by_ < -1000000
      · have g1b : decide (by_ < -1000000) = true := decide_eq_true g1
        clear hf0 hf1 hr0 hc0 hr1 hc1 h hk hsz
        go_enter Try.func6, Try.ntmps6
        go_wp2_with (go_at_call 7; ((with_reducible refine (pascalinelaw16_awake.calls true _ rfl).mono ?_)); rintro e w1 ⟨rfl, hb⟩; have HB1 := Aside0.mk hb; have hx := (HW.out _ hb).1; have hy := (HW.out _ hb).2; clear hb)
        go_region
        have HB := Aside0.mk (show Below w.heap.size w w1.drew from below_drew1 (HWB.out.trans (HB1.out.mono (by simp))))
        generalize w1.drew = w1d at HB ⊢
        clear hx hy HB1
        go_wp2_with (first | (go_at_call 8; ((with_reducible refine (pascalinelaw16_few.calls k A0 c0 l0 true _ (Kd.C_below H0.out.1 HB.out) H0.out.2 HF0.out).mono ?_)); rintro e w2 ⟨rfl, hb⟩; have HB2 := Aside0.mk (below_step HB.out hb); clear hb) | (go_at_call 8; ((with_reducible refine (pascalinelaw16_few.calls k A1 c1 l1 true _ (Kd.C_below H1.out.1 HB2.out) H1.out.2 HF1.out).mono ?_)); rintro e w3 ⟨rfl, hb⟩; have HB3 := Aside0.mk (below_step HB2.out hb); clear hb))
        go_ret
        exact ⟨rfl, HB3.out⟩
      have g1b : decide (by_ < -1000000) = false := decide_eq_false g1
      by_cases g2 : 1000000 < by_
      · have g2b : decide (1000000 < by_) = true := decide_eq_true g2
        clear hf0 hf1 hr0 hc0 hr1 hc1 h hk hsz g1
        go_enter Try.func6, Try.ntmps6
        go_wp2_with (go_at_call 7; ((with_reducible refine (pascalinelaw16_awake.calls true _ rfl).mono ?_)); rintro e w1 ⟨rfl, hb⟩; have HB1 := Aside0.mk hb; have hx := (HW.out _ hb).1; have hy := (HW.out _ hb).2; clear hb)
        go_region
        have HB := Aside0.mk (show Below w.heap.size w w1.drew from below_drew1 (HWB.out.trans (HB1.out.mono (by simp))))
        generalize w1.drew = w1d at HB ⊢
        clear hx hy HB1
        go_wp2_with (first | (go_at_call 8; ((with_reducible refine (pascalinelaw16_few.calls k A0 c0 l0 true _ (Kd.C_below H0.out.1 HB.out) H0.out.2 HF0.out).mono ?_)); rintro e w2 ⟨rfl, hb⟩; have HB2 := Aside0.mk (below_step HB.out hb); clear hb) | (go_at_call 8; ((with_reducible refine (pascalinelaw16_few.calls k A1 c1 l1 true _ (Kd.C_below H1.out.1 HB2.out) H1.out.2 HF1.out).mono ?_)); rintro e w3 ⟨rfl, hb⟩; have HB3 := Aside0.mk (below_step HB2.out hb); clear hb))
        go_ret
        exact ⟨rfl, HB3.out⟩
      have g2b : decide (1000000 < by_) = false := decide_eq_false g2
      by_cases g3 : 1000000 < size
      · have g3b : decide (1000000 < size) = true := decide_eq_true g3
        clear hf0 hf1 hr0 hc0 hr1 hc1 h hk hsz g1 g2
        go_enter Try.func6, Try.ntmps6
        go_wp2_with (go_at_call 7; ((with_reducible refine (pascalinelaw16_awake.calls true _ rfl).mono ?_)); rintro e w1 ⟨rfl, hb⟩; have HB1 := Aside0.mk hb; have hx := (HW.out _ hb).1; have hy := (HW.out _ hb).2; clear hb)
        go_region
        have HB := Aside0.mk (show Below w.heap.size w w1.drew from below_drew1 (HWB.out.trans (HB1.out.mono (by simp))))
        generalize w1.drew = w1d at HB ⊢
        clear hx hy HB1
        go_wp2_with (first | (go_at_call 8; ((with_reducible refine (pascalinelaw16_few.calls k A0 c0 l0 true _ (Kd.C_below H0.out.1 HB.out) H0.out.2 HF0.out).mono ?_)); rintro e w2 ⟨rfl, hb⟩; have HB2 := Aside0.mk (below_step HB.out hb); clear hb) | (go_at_call 8; ((with_reducible refine (pascalinelaw16_few.calls k A1 c1 l1 true _ (Kd.C_below H1.out.1 HB2.out) H1.out.2 HF1.out).mono ?_)); rintro e w3 ⟨rfl, hb⟩; have HB3 := Aside0.mk (below_step HB2.out hb); clear hb))
        go_ret
        exact ⟨rfl, HB3.out⟩
      have g3b : decide (1000000 < size) = false := decide_eq_false g3
      obtain ⟨hl0, hn0⟩ : l0.length ≤ 100 ∧ fq_Near l0 := by
        obtain ⟨b', e, hx⟩ := fq_few_spec k (by omega) l0
        rw [hf0] at e; injection e with e; exact hx e.symm
      obtain ⟨hl1, _⟩ : l1.length ≤ 100 ∧ fq_Near l1 := by
        obtain ⟨b', e, hx⟩ := fq_few_spec k (by omega) l1
        rw [hf1] at e; injection e with e; exact hx e.symm
      have hsh : pascalineref16_Shift.f k l0 by_ = some (l0.map (rj_sh by_)) := rj_ref_shift l0 by_ hl0 hn0 (by omega) l0.length k 0 (by omega) (by omega) (by omega)
      obtain ⟨cv, hcv1, hcv2⟩ := rj_cov l0 size hl0 hn0 (by omega) hsz l0.length k 0 0 (by omega) (by omega) (by omega) (by omega) (by omega)
      have hsame1 := ranges_Mark.same_refl k (l0.map (rj_sh by_)) (by rw [List.length_map]; omega) (by rw [List.length_map]; omega)
      have hall : ∀ l ∈ [l0, l1], l.length ≤ 100 := by intro l hl; simp at hl; rcases hl with rfl | rfl <;> assumption
      have hjl := rj_all_len [l0, l1] hall 2 (by simp)
      have hsame2 := ranges_Mark.same_refl k (rj_all [l0, l1]) (by simpa using (show (rj_all [l0, l1]).length ≤ 1000 from by have h9 : (rj_all ([l0, l1].take 2)).length ≤ 100 * 2 := hjl; rw [show [l0, l1].take 2 = [l0, l1] from rfl] at h9; omega)) (by have h9 : (rj_all ([l0, l1].take 2)).length ≤ 100 * 2 := hjl; rw [show [l0, l1].take 2 = [l0, l1] from rfl] at h9; omega)
      have hrj : pascalineref16_Join.f k [l0, l1] = some (rj_all [l0, l1]) := rj_ref_join [l0, l1] (by simp) hall 2 k 0 (by simp) (by simp) (by omega)
      obtain ⟨SL, hSL⟩ : ∃ SL : List S29, l0.map (rj_sh by_) = SL := ⟨_, rfl⟩
      rw [hSL] at hsh hsame1
      have hby : -1000000 ≤ by_ ∧ by_ ≤ 1000000 := by omega
      have HSHIFT := Aside0.mk (fun W (hC : Kd.C k29 W A0 l0.length l0) => (show Calls Try.prog 18 #[.slice A0 l0.length c0, .int .i64 by_] W fun e w' => ∃ v : Value, e = .returned v ∧ Kd.R k29 29 w' W.heap.size (fun _ => True) v SL ∧ Below W.heap.size W w' from by
        have h := rj_Shift A0 c0 l0 by_ W hl0 hn0 hby hC
        rw [hSL] at h
        exact h))
      have HSH := Aside0.mk hsh
      have HCV := Aside0.mk (show ranges_Covered.f k l0 size = some cv ∧ pascalineref16_Covered.f k l0 size = some cv from ⟨hcv1, hcv2⟩)
      have HS1 := Aside0.mk hsame1
      have HS2 := Aside0.mk hsame2
      have HJ := Aside0.mk (fun W (h0 : Kd.C k29 W A0 l0.length l0) (h1 : Kd.C k29 W A1 l1.length l1) => (show Calls Try.prog 22 #[.slice (some ⟨W.heap.size, 0, none⟩) 2 2] (W.alloc (.cells #[.slice A0 l0.length c0, .slice A1 l1.length c1] 22)) fun e w' => ∃ v : Value, e = .returned v ∧ Kd.R k29 29 w' (W.alloc (.cells #[.slice A0 l0.length c0, .slice A1 l1.length c1] 22)).heap.size (fun _ => True) v (rj_all [l0, l1]) ∧ Below (W.alloc (.cells #[.slice A0 l0.length c0, .slice A1 l1.length c1] 22)).heap.size (W.alloc (.cells #[.slice A0 l0.length c0, .slice A1 l1.length c1] 22)) w' from rj_Join _ 2 [l0, l1] _ (by simp) hall (rj_two W A0 c0 l0 A1 c1 l1 h0 H0.out.2 h1 H1.out.2)))
      have HRJ := Aside0.mk (fun W (h0 : Kd.C k29 W A0 l0.length l0) (h1 : Kd.C k29 W A1 l1.length l1) => (show Calls Try.prog 23 #[.slice (some ⟨W.heap.size, 0, none⟩) 2 2] (W.alloc (.cells #[.slice A0 l0.length c0, .slice A1 l1.length c1] 22)) fun e w' => ∃ v : Value, e = .returned v ∧ Kd.R k29 29 w' (W.alloc (.cells #[.slice A0 l0.length c0, .slice A1 l1.length c1] 22)).heap.size (fun _ => True) v (rj_all [l0, l1]) ∧ Below (W.alloc (.cells #[.slice A0 l0.length c0, .slice A1 l1.length c1] 22)).heap.size (W.alloc (.cells #[.slice A0 l0.length c0, .slice A1 l1.length c1] 22)) w' from pascalineref16_Join.calls k _ 2 [l0, l1] _ _ (rj_two W A0 c0 l0 A1 c1 l1 h0 H0.out.2 h1 H1.out.2) (Nat.le_refl 2) hrj))
      have HALL := Aside0.mk hall
      have HNR := Aside0.mk (And.intro hl0 (And.intro hn0 (show -1000000 ≤ by_ ∧ by_ ≤ 1000000 by omega)))
      · clear hf0 hf1 hr0 hc0 hr1 hc1 h hk hsz g1 g2 g3 hsh hcv1 hcv2 hsame1 hsame2 hrj hall hjl hl0 hn0 hl1 hSL hby
        go_enter Try.func6, Try.ntmps6
        go_wp2_with (go_at_call 7; ((with_reducible refine (pascalinelaw16_awake.calls true _ rfl).mono ?_)); rintro e w1 ⟨rfl, hb⟩; have HB1 := Aside0.mk hb; have hx := (HW.out _ hb).1; have hy := (HW.out _ hb).2; clear hb)
        go_region
        have HB := Aside0.mk (show Below w.heap.size w w1.drew from below_drew1 (HWB.out.trans (HB1.out.mono (by simp))))
        generalize w1.drew = w1d at HB ⊢
        clear hx hy HB1
        go_wp2_with (first
          | (go_at_call 8; ((with_reducible refine (pascalinelaw16_few.calls k A0 c0 l0 true _ (Kd.C_below H0.out.1 HB.out) H0.out.2 HF0.out).mono ?_)); rintro e w2 ⟨rfl, hb⟩; have HB2 := Aside0.mk (below_step HB.out hb); clear hb)
          | (go_at_call 8; ((with_reducible refine (pascalinelaw16_few.calls k A1 c1 l1 true _ (Kd.C_below H1.out.1 HB2.out) H1.out.2 HF1.out).mono ?_)); rintro e w3 ⟨rfl, hb⟩; have HB3 := Aside0.mk (below_step HB2.out hb); clear hb)
          | (go_at_call 18; ((with_reducible refine (HSHIFT.out _ (Kd.C_below H0.out.1 HB3.out)).mono ?_)); rintro e w4 ⟨v4, rfl, ho, hb⟩; obtain ⟨A4, c4, rfl⟩ := Kd.R_slice ho; have HO4 := Aside0.mk ho; have HB4 := Aside0.mk (below_step HB3.out hb); clear ho hb)
          | (go_at_call 19; ((with_reducible refine (pascalineref16_Shift.calls k A0 c0 l0 by_ _ _ (Kd.C_below H0.out.1 HB4.out) H0.out.2 HSH.out).mono ?_)); rintro e w5 ⟨v5, rfl, ho, hb⟩; obtain ⟨A5, c5, rfl⟩ := Kd.R_slice ho; have HO5 := Aside0.mk ho; have HO4b := Aside0.mk (Kd.R_below HO4.out hb); have HB5 := Aside0.mk (below_step HB4.out hb); clear ho hb)
          | (go_at_call 11; ((with_reducible refine (pascalineref16_Same.calls k A4 c4 _ A5 c5 _ true _ (Kd.R_reads' HO4b.out).2.2 (Kd.R_reads' HO4b.out).2.1 (Kd.R_reads' HO5.out).2.2 (Kd.R_reads' HO5.out).2.1 HS1.out).mono ?_)); rintro e w6 ⟨rfl, hd⟩; have HB6 := Aside0.mk (below_step HB5.out hd.below); clear hd)
          | (go_at_call 20; ((with_reducible refine (ranges_Covered.calls k A0 c0 l0 size cv _ (Kd.C_below H0.out.1 HB6.out) H0.out.2 HCV.out.1).mono ?_)); rintro e w7 ⟨rfl, hb⟩; have HB7 := Aside0.mk (below_step HB6.out hb); clear hb)
          | (go_at_call 21; ((with_reducible refine (pascalineref16_Covered.calls k A0 c0 l0 size cv _ (Kd.C_below H0.out.1 HB7.out) H0.out.2 HCV.out.2).mono ?_)); rintro e w8 ⟨rfl, hd⟩; have HB8 := Aside0.mk (below_step HB7.out hd.below); clear hd)
          | (go_at_call 22; ((with_reducible refine (HJ.out w8 (Kd.C_below H0.out.1 HB8.out) (Kd.C_below H1.out.1 HB8.out)).mono ?_)); rintro e w9 ⟨v9, rfl, ho, hb⟩; obtain ⟨A9, c9, rfl⟩ := Kd.R_slice ho; have HO9 := Aside0.mk ho; have HB9 := Aside0.mk (below_step (below_alloc HB8.out _) hb); clear ho hb)
          | (go_at_call 23; ((with_reducible refine (HRJ.out w9 (Kd.C_below H0.out.1 HB9.out) (Kd.C_below H1.out.1 HB9.out)).mono ?_)); rintro e w10 ⟨v10, rfl, ho, hb⟩; obtain ⟨A10, c10, rfl⟩ := Kd.R_slice ho; have HO10 := Aside0.mk ho; have HO9b := Aside0.mk (Kd.R_below (Kd.R_alloc HO9.out _) hb); have HB10 := Aside0.mk (below_step (below_alloc HB9.out _) hb); clear ho hb)
          | (go_at_call 11; ((with_reducible refine (pascalineref16_Same.calls k A9 c9 _ A10 c10 _ true _ (Kd.R_reads' HO9b.out).2.2 (Kd.R_reads' HO9b.out).2.1 (Kd.R_reads' HO10.out).2.2 (Kd.R_reads' HO10.out).2.1 HS2.out).mono ?_)); rintro e w11 ⟨rfl, hd⟩; have HB11 := Aside0.mk (below_step HB10.out hd.below); clear hd))
        go_ret
        exact ⟨rfl, HB11.out⟩
    · rw [if_neg hk] at h; exact absurd h (by simp)

end Go.Proofs.Ytemkjnjfblliaaa.P

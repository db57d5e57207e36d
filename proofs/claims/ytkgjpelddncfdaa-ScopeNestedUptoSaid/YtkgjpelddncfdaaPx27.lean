-- Written by a program of this session (wip/tools/hp.py) out of the translation.
import Derived.Test.YtkgjpelddncfdaaPx0
import Derived.Test.YtkgjpelddncfdaaPx2
import Derived.Test.YtkgjpelddncfdaaPx3
import Derived.Test.YtkgjpelddncfdaaPx5
import Derived.Test.YtkgjpelddncfdaaPx6
import Derived.Test.YtkgjpelddncfdaaPx8
import Derived.Test.YtkgjpelddncfdaaPx21
import Derived.Test.YtkgjpelddncfdaaPx24
import Derived.Test.YtkgjpelddncfdaaPx26
namespace Go.Proofs.Ytkgjpelddncfdaa.P
open Go.RowKit Go.Proofs.YtkgjpelddncfdaaW.PrintWords Go.Proofs.YtkgjpelddncfdaaW.PrintLast Go.Proofs.YtkgjpelddncfdaaW.PrintMore
attribute [local go_sem] max2_int min2_int max_two min_two max_three min_three max_four min_four   -- for this text's walks alone
set_option linter.unusedVariables false
set_option linter.unusedSimpArgs false

/-! ### pascalinelaw11_ScopeNested: function 3 -/
/-- So many scopes are opened. -/
def sn_k (D : List (List SO)) (k : Nat) : List (List SO) := D ++ List.replicate k []
theorem sn_len (D : List (List SO)) (k : Nat) : (sn_k D k).length = D.length + k := by unfold sn_k; rw [List.length_append, List.length_replicate]
theorem sn_zero (D : List (List SO)) : sn_k D 0 = D := by unfold sn_k; rw [List.replicate_zero, List.append_nil]
theorem sn_snoc (D : List (List SO)) (k : Nat) : sn_k D k ++ [[]] = sn_k D (k + 1) := by unfold sn_k; rw [List.append_assoc, ← List.replicate_succ']
theorem sn_last (D : List (List SO)) (k : Nat) (hk : 0 < k) : (sn_k D k).getD ((sn_k D k).length - 1) [] = [] := by
  rw [sn_len, List.getD_eq_getElem?_getD]
  unfold sn_k
  rw [List.getElem?_append_right (by omega), List.getElem?_replicate, if_pos (by omega)]
  rfl
theorem sn_plen (D : List (List SO)) (x : SO) : (sc_put D x).length = D.length := by unfold sc_put; rw [List.length_set]
theorem sn_find (D : List (List SO)) (k : Nat) (hk : 0 < k) (x : SO) : sc_find (sc_put (sn_k D k) x) x.f0 = (x, 0) := by
  have hl : (sc_put (sn_k D k) x).length = (D.length + k - 1) + 1 := by rw [sn_plen, sn_len]; omega
  have hg : (sc_put (sn_k D k) x).getD (D.length + k - 1) [] = [x] := by
    unfold sc_put
    rw [sn_last D k hk, sn_len, List.getD_eq_getElem?_getD, List.getElem?_set_self (by rw [sn_len]; omega)]
    rfl
  have hi : sc_ix [x] x.f0 = 0 := by
    unfold sc_ix
    rw [os_ix_cons, if_pos (show sc_is x.f0 x = true from by unfold sc_is; exact beq_self_eq_true _)]
  unfold sc_find
  rw [hl]
  unfold sc_from
  rw [hg, hi, if_pos (Int.le_refl 0)]
  unfold sc_got
  dsimp only
  rw [hg]
  rfl
theorem sn_end (D : List (List SO)) (k : Nat) (hk : 0 < k) (x : SO) : (sc_put (sn_k D k) x).take D.length = D := by
  unfold sc_put
  rw [List.take_set, sn_len, List.set_eq_of_length_le (by rw [List.length_take]; omega)]
  unfold sn_k
  exact List.take_left' rfl
theorem sn_drop (P : List (List SO)) (j : Nat) (hj : j ≤ P.length) : (P.take j).dropLast = P.take (j - 1) := by
  rw [List.dropLast_eq_take, List.length_take, List.take_take, show min (min j P.length - 1) j = j - 1 by omega]
/-- What stays while the scopes are called. -/
structure SnK (w wr : World) (C : Nat → Nat) (b4 b10 : Nat) (o4 o10 : Obj) : Prop where
  below : Below w.heap.size w wr
  h4 : wr.heap[b4]? = some o4
  h10 : wr.heap[b10]? = some o10
  c4 : C b4 = 0
  c10 : C b10 = 0
theorem SnK.step {w wr w' : World} {C C' : Nat → Nat} {b4 b10 base : Nat} {o4 o10 : Obj} (h : SnK w wr C b4 b10 o4 o10) (hb : w.heap.size ≤ base) (k : ScK base wr w' C C') : SnK w w' C' b4 b10 o4 o10 :=
  ⟨h.below.trans (k.below.mono hb), (k.keep b4 (blk_lt h.h4) h.c4).trans h.h4, (k.keep b10 (blk_lt h.h10) h.c10).trans h.h10, (k.ext b4 (blk_lt h.h4)).trans h.c4, (k.ext b10 (blk_lt h.h10)).trans h.c10⟩
theorem SnK.move {w wr w' : World} {C : Nat → Nat} {b4 b10 : Nat} {o4 o10 : Obj} (h : SnK w wr C b4 b10 o4 o10) (hb : Below wr.heap.size wr w') : SnK w w' C b4 b10 o4 o10 :=
  ⟨below_step h.below hb, blk_below h.h4 hb, blk_below h.h10 hb, h.c4, h.c10⟩
instance (o : S57) : Decidable (SmallOp o) := by unfold SmallOp; infer_instance
/-- The row's bounds. -/
def SnOps (l : List S57) (m : Int) (x7 : List S69) : Prop := l.length ≤ 1048576 ∧ (∀ o ∈ l, SmallOp o) ∧ x7.length ≤ 1048576 ∧ 0 ≤ m ∧ m ≤ 255
instance (l : List S57) (m : Int) (x7 : List S69) : Decidable (SnOps l m x7) := by unfold SnOps; infer_instance
def pascalinelaw11_ScopeNested.f (l0 : List S57) (_a1_0 : ByteArray) (_a1_1 _a1_2 _a1_3 _a1_4 _a1_5 : Int) (_a1_6 : Bool) (l1_7 : List S69) (a2 : Int) : Option Bool := if SnOps l0 a2 l1_7 then some true else none
set_option maxRecDepth 100000 in
set_option maxHeartbeats 8000000 in
theorem pascalinelaw11_ScopeNested.calls (A0 : Option Addr) (c0 : Nat) (l0 : List S57) (x0 : ByteArray) (x1 x2 x3 x4 x5 : Int) (x6 : Bool) (A7 : Option Addr) (c7 : Nat) (x7 : List S69) (a2 : Int) (r : Bool) (w : World) (hr0 : Kd.C k57 w A0 l0.length l0) (hc0 : l0.length ≤ c0) (hr1 : Kd.C k69 w A7 x7.length x7) (hc1 : x7.length ≤ c7) (h : pascalinelaw11_ScopeNested.f l0 x0 x1 x2 x3 x4 x5 x6 x7 a2 = some r) :
    Calls Try.prog 3 #[.slice A0 l0.length c0, .agg #[.string x0, .int .i64 x1, .int .i64 x2, .int .i64 x3, .int .i32 x4, .int .i64 x5, .bool x6, .slice A7 x7.length c7], .int .u8 a2] w fun e w' => e = .returned (.bool r) ∧ Below w.heap.size w w' := by
  unfold pascalinelaw11_ScopeNested.f at h
  by_cases hs : SnOps l0 a2 x7
  case neg => rw [if_neg hs] at h; cases h
  rw [if_pos hs] at h
  obtain rfl : r = true := (Option.some.inj h).symm
  obtain ⟨hl0, hsm, hl7, hm0, hm1⟩ := hs
  have HC := Aside0.mk hr0; have HLL := Aside0.mk hl0; have HSM := Aside0.mk hsm; have HL7 := Aside0.mk hl7; have HC7 := Aside0.mk (And.intro hc1 hr1)
  obtain ⟨m, rfl⟩ : ∃ m : Nat, a2 = (m : Int) := ⟨a2.toNat, by omega⟩
  clear hr0 hc0 hr1 hc1 h hl0 hsm hl7
  have m2 : (m : Int) ≤ 255 := hm1
  have HM := Aside0.mk (show m ≤ 255 by omega)
  clear hm1
  go_enter Try.func3, Try.ntmps3
  go_wp2_with (first | ((with_reducible refine gate_dst (N := 4) rfl ?_); refine box_event ?hg (N := 4) ?hd (cs := #[.string x0, .int .i64 x1, .int .i64 x2, .int .i64 x3, .int .i32 x4, .int .i64 x5, .bool x6, .slice A7 x7.length c7]) (t := 25) ?hr ?_; (case hd => rfl); (case hg => rfl); (case hr => first | (go_simp; done) | (go_simp; rfl)); intro b4 hgx w4 hbox hb; have HB4 := Aside0.mk hb; have HX4 := Aside0.mk hbox; clear hgx hbox hb) | (go_at_call 6; refine (sc_awake_calls _).mono ?_; rintro e w1 ⟨rfl, hb⟩; have HB1 := Aside0.mk (below_step HB4.out hb); have HM4 := Aside0.mk (blk_below HX4.out hb); clear hb) | (go_at_call 7; refine (sc_played_calls A0 c0 l0 _ (Kd.C_below HC.out HB1.out) HLL.out HSM.out).mono ?_; rintro e w7 ⟨base, g, col, D, M, L, lv, Ms, A, n, c, A', n', c', hbs, rfl, hS, hb⟩; have HS7 := Aside0.mk hS.is; have HZ7 := Aside0.mk (below_step HB1.out hb); have HN4 := Aside0.mk (blk_below HM4.out hb); have HBS := Aside0.mk (show w.heap.size ≤ base from Nat.le_trans HB1.out.size hbs); have HC4 := Aside0.mk (show col b4 = 0 from by cases e : col b4 with | zero => rfl | succ q => exact absurd (IsS.low hS.is b4 (by omega)) (by have := blk_lt HM4.out; omega)); obtain ⟨lev, hlev⟩ : ∃ lev : Nat, D.length = lev + 1 := ⟨D.length - 1, by have := hS.is.len; omega⟩; have HLEV := Aside0.mk hlev; have lv2 : (lev : Int) ≤ 64 := (by have := hS.is.len; omega); have lv1 : (0 : Int) ≤ (lev : Int) := (by omega); obtain ⟨rp, hrp⟩ : ∃ R, sc_find D x0 = R := ⟨_, rfl⟩; obtain ⟨⟨p0, p1, p2, p3, p4, p5, p6, p7⟩, pc⟩ := rp; have HRP := Aside0.mk hrp; clear hb hS HB1 HM4 hbs hlev hrp) | ((with_reducible refine gate_dst (N := 8) rfl ?_); refine box_event ?hg (N := 8) ?hd (cs := #[.slice none 0 0, .int .i64 0, .slice none 0 0]) (t := 31) ?hr ?_; (case hd => rfl); (case hg => rfl); (case hr => first | (go_simp; done) | (go_simp; rfl)); intro b8 hgx w8 hbox hb; have HB8 := Aside0.mk hb; have HX8 := Aside0.mk hbox; have HG8 := Aside0.mk (show w7.heap.size ≤ b8 from Nat.le_of_eq hgx.symm); have v0 : w8.cell? ⟨b8, 0, none⟩ = some (.slice none 0 0) := blk_cell hbox 0; have v1 : w8.cell? ⟨b8, 1, none⟩ = some (.int .i64 0) := blk_cell hbox 1; have v2 : w8.cell? ⟨b8, 2, none⟩ = some (.slice none 0 0) := blk_cell hbox 2; have s0 := blk_frozen hbox 0; have s1 := blk_frozen hbox 1; have s2 := blk_frozen hbox 2; clear hgx hbox hb) | ((with_reducible refine gate_dst (N := 34) rfl ?_); obtain ⟨W9, hW9⟩ : ∃ W9 : World, (((w8.setCell ⟨b8, 0, none⟩ (.slice A n c)).setCell ⟨b8, 1, none⟩ (.int .i64 lv)).setCell ⟨b8, 2, none⟩ (.slice A' n' c')) = W9 := ⟨_, rfl⟩; rw [hW9]; have hx := sc_put3 HX8.out (.slice A n c) (.int .i64 lv) (.slice A' n' c'); rw [hW9] at hx; have HN8 := Aside0.mk hx; have hb := sc_put3b HB8.out HG8.out (.slice A n c) (.int .i64 lv) (.slice A' n' c'); rw [hW9] at hb; clear hx hW9 HX8 HB8 v0 v1 v2 s0 s1 s2; have HZ9 := Aside0.mk (below_step HZ7.out hb); have HS9 := Aside0.mk (HS7.out.below hb); have HM4 := Aside0.mk (blk_below HN4.out hb); have k0 : W9.cell? ⟨b4, 0, none⟩ = some (.string x0) := blk_cell HM4.out 0; clear hb HS7 HZ7 HN4 HN8) | (go_at_call 8; refine (sc_Find_calls HS9.out x0).mono ?_; rw [HRP.out]; rintro e w10 ⟨⟨Ap, cp, rfl, hl, hc⟩, hb⟩; have HZ10 := Aside0.mk (below_step HZ9.out hb); have HS10 := Aside0.mk (HS9.out.below hb); have HN4 := Aside0.mk (blk_below HM4.out hb); clear hl hc hb HZ9 HS9 HM4 k0; dsimp only [sc_cells]) | ((with_reducible refine gate_dst (N := 10) rfl ?_); refine box_event ?hg (N := 10) ?hd (cs := #[.string ⟨#[]⟩, .int .i64 0, .int .i64 0, .int .i64 0, .int .i32 0, .int .i64 0, .bool false, .slice none 0 0]) (t := 25) ?hr ?_; (case hd => rfl); (case hg => rfl); (case hr => first | (go_simp; done) | (go_simp; rfl)); intro b10 hgx w10b hbox hb; have HB10 := Aside0.mk hb; have HX10 := Aside0.mk hbox; have HG10 := Aside0.mk (show w10.heap.size ≤ b10 from Nat.le_of_eq hgx.symm); have v0 : w10b.cell? ⟨b10, 0, none⟩ = some (.string ⟨#[]⟩) := blk_cell hbox 0; have v1 : w10b.cell? ⟨b10, 1, none⟩ = some (.int .i64 0) := blk_cell hbox 1; have v2 : w10b.cell? ⟨b10, 2, none⟩ = some (.int .i64 0) := blk_cell hbox 2; have v3 : w10b.cell? ⟨b10, 3, none⟩ = some (.int .i64 0) := blk_cell hbox 3; have v4 : w10b.cell? ⟨b10, 4, none⟩ = some (.int .i32 0) := blk_cell hbox 4; have v5 : w10b.cell? ⟨b10, 5, none⟩ = some (.int .i64 0) := blk_cell hbox 5; have v6 : w10b.cell? ⟨b10, 6, none⟩ = some (.bool false) := blk_cell hbox 6; have v7 : w10b.cell? ⟨b10, 7, none⟩ = some (.slice none 0 0) := blk_cell hbox 7; have s0 := blk_frozen hbox 0; have s1 := blk_frozen hbox 1; have s2 := blk_frozen hbox 2; have s3 := blk_frozen hbox 3; have s4 := blk_frozen hbox 4; have s5 := blk_frozen hbox 5; have s6 := blk_frozen hbox 6; have s7 := blk_frozen hbox 7; clear hgx hbox hb) | (go_at_call 9; obtain ⟨W11, hW9⟩ : ∃ W9 : World, ((((((((w10b.setCell ⟨b10, 0, none⟩ (.string p0)).setCell ⟨b10, 1, none⟩ (.int .i64 p1)).setCell ⟨b10, 2, none⟩ (.int .i64 p2)).setCell ⟨b10, 3, none⟩ (.int .i64 p3)).setCell ⟨b10, 4, none⟩ (.int .i32 p4)).setCell ⟨b10, 5, none⟩ (.int .i64 p5)).setCell ⟨b10, 6, none⟩ (.bool p6)).setCell ⟨b10, 7, none⟩ (.slice Ap p7.length cp)) = W9 := ⟨_, rfl⟩; rw [hW9]; have hx := sc_put8 HX10.out (.string p0) (.int .i64 p1) (.int .i64 p2) (.int .i64 p3) (.int .i32 p4) (.int .i64 p5) (.bool p6) (.slice Ap p7.length cp); rw [hW9] at hx; have HN10 := Aside0.mk hx; have hb := sc_put8b HB10.out HG10.out (.string p0) (.int .i64 p1) (.int .i64 p2) (.int .i64 p3) (.int .i32 p4) (.int .i64 p5) (.bool p6) (.slice Ap p7.length cp); rw [hW9] at hb; clear hx hW9 HX10 HB10 v0 v1 v2 v3 v4 v5 v6 v7 s0 s1 s2 s3 s4 s5 s6 s7; have HZ11 := Aside0.mk (below_step HZ10.out hb); have HS11 := Aside0.mk (HS10.out.below hb); have HM4 := Aside0.mk (blk_below HN4.out hb); have HC10 := Aside0.mk (show col b10 = 0 from IsS.new HS10.out b10 HG10.out); clear hb HS10 HZ10 HN4; refine (sc_Level_calls HS11.out).mono ?_; rw [show ((D.length : Int) - 1) = (lev : Int) from by have := HLEV.out; omega]; rintro e w12 ⟨rfl, rfl⟩))
  have HK0 := Aside0.mk (show SnK w w12 col b4 b10 (.cells #[.string x0, .int .i64 x1, .int .i64 x2, .int .i64 x3, .int .i32 x4, .int .i64 x5, .bool x6, .slice A7 x7.length c7] 25 (0, 0)) (.cells #[.string p0, .int .i64 p1, .int .i64 p2, .int .i64 p3, .int .i32 p4, .int .i64 p5, .bool p6, .slice Ap p7.length cp] 25 (0, 0)) from ⟨HZ11.out, HM4.out, HN10.out, HC4.out, HC10.out⟩)
  have HI0 := Aside0.mk (show IsS base w12 g col (sn_k D (min 0 (64 - lev))) M by rw [Nat.zero_min, sn_zero]; exact HS11.out)
  clear HZ11 HM4 HN10 HC4 HC10 HS11
  go_loopg [13] (m + 1) (fun kx v13 wr => ∃ (i : Nat) (cl : Nat → Nat), v13 = .int .i64 i ∧ Aside0 (i + kx = m + 1 ∧ i ≤ m) ∧ Aside0 (IsS base wr g cl (sn_k D (min i (64 - lev))) M) ∧ Aside0 (SnK w wr cl b4 b10 (.cells #[.string x0, .int .i64 x1, .int .i64 x2, .int .i64 x3, .int .i32 x4, .int .i64 x5, .bool x6, .slice A7 x7.length c7] 25 (0, 0)) (.cells #[.string p0, .int .i64 p1, .int .i64 p2, .int .i64 p3, .int .i32 p4, .int .i64 p5, .bool p6, .slice Ap p7.length cp] 25 (0, 0))))
  case atStart => exact ⟨0, col, rfl, ⟨⟨by omega, by omega⟩⟩, HI0, HK0⟩
  case round =>
    obtain ⟨i, cl, rfl, HI, HS, HK⟩ := hrel
    have hlv := HLEV.out
    have hm := HM.out
    by_cases hi : i < m
    · have i1 : (0 : Int) ≤ (i : Int) := by omega
      have i2 : (i : Int) < (m : Int) := by omega
      have i2b : decide (i < m) = true := decide_eq_true hi
      have i5 : (i : Int) ≤ 255 := by omega
      have HH := Aside0.mk hi
      by_cases hk : lev + i < 64
      · have hd : decide ((lev : Int) + (i : Int) < 64) = true := decide_eq_true (by omega)
        have HKK := Aside0.mk hk
        clear hlv hm hi hk
        go_wp2_with ((go_at_call 10; refine (sc_Open_yes HS.out (by rw [sn_len, HLEV.out]; have := HKK.out; omega)).mono ?_; rintro e wo ⟨rfl, C2, hI2, hK2⟩; have HI2 := Aside0.mk hI2; have HK2 := Aside0.mk hK2; clear hI2 hK2))
        go_roundg (m - i)
        case measure => have := HI.out; have := HH.out; omega
        case rel => exact ⟨i + 1, C2, (by first | rfl | (simp; done)), ⟨by have := HI.out; have := HH.out; omega⟩, ⟨by have h1 := HKK.out; have h2 := HI2.out; rw [sn_snoc, show min i (64 - lev) + 1 = min (i + 1) (64 - lev) by omega] at h2; exact h2⟩, ⟨HK.out.step HBS.out HK2.out⟩⟩
      · have hd : decide ((lev : Int) + (i : Int) < 64) = false := decide_eq_false (by omega)
        have HKK := Aside0.mk hk
        clear hlv hm hi hk
        go_wp2_with ((go_at_call 10; refine (sc_Open_no HS.out (by rw [sn_len, HLEV.out]; have := HKK.out; have := HI.out; have h64 : lev ≤ 64 := (by omega); omega)).mono ?_; rintro e wo ⟨rfl, rfl⟩))
        go_roundg (m - i)
        case measure => have := HI.out; have := HH.out; omega
        case rel => exact ⟨i + 1, cl, (by first | rfl | (simp; done)), ⟨by have := HI.out; have := HH.out; omega⟩, ⟨by have h1 := HKK.out; have h2 := HS.out; rw [show min i (64 - lev) = min (i + 1) (64 - lev) by omega] at h2; exact h2⟩, HK⟩
    · have i2 : ¬ (i : Int) < (m : Int) := by omega
      have i2b : decide (i < m) = false := decide_eq_false hi
      obtain ⟨k, hk⟩ : ∃ k, k = min i (64 - lev) := ⟨_, rfl⟩
      rw [← hk] at HS
      have hk64 : k ≤ 64 - lev := by omega
      have HK64 := Aside0.mk hk64
      clear hk hm hi
      by_cases hk0 : k = 0
      · subst hk0
        have HE := Aside0.mk (show (((sn_k D 0).length : Int) - 1) = (lev : Int) by rw [sn_len]; omega)
        clear hlv hk64
        go_wp2_with ((go_at_call 9; refine (sc_Level_calls HS.out).mono ?_; rw [HE.out]; rintro e wl ⟨rfl, rfl⟩))
        go_ret
        exact ⟨rfl, HK.out.below⟩
      · obtain ⟨t, ht⟩ : ∃ t, t = lev + k := ⟨_, rfl⟩
        have HE := Aside0.mk (show (((sn_k D k).length : Int) - 1) = (t : Int) by rw [sn_len]; omega)
        have hne : ¬ t = lev := by omega
        have hne2 : ¬ (t : Int) = (lev : Int) := by omega
        have hned : decide (t = lev) = false := decide_eq_false hne
        have HKP := Aside0.mk (show 0 < k by omega)
        have HT := Aside0.mk ht
        have t1 : (0 : Int) ≤ (t : Int) := by omega
        have t2 : (t : Int) ≤ 64 := by omega
        have HSP := Aside0.mk (HK.out.h4)
        have k0 : wr.cell? ⟨b4, 0, none⟩ = some (.string x0) := blk_cell HSP.out 0; have k1 : wr.cell? ⟨b4, 1, none⟩ = some (.int .i64 x1) := blk_cell HSP.out 1; have k2 : wr.cell? ⟨b4, 2, none⟩ = some (.int .i64 x2) := blk_cell HSP.out 2; have k3 : wr.cell? ⟨b4, 3, none⟩ = some (.int .i64 x3) := blk_cell HSP.out 3; have k4 : wr.cell? ⟨b4, 4, none⟩ = some (.int .i32 x4) := blk_cell HSP.out 4; have k5 : wr.cell? ⟨b4, 5, none⟩ = some (.int .i64 x5) := blk_cell HSP.out 5; have k6 : wr.cell? ⟨b4, 6, none⟩ = some (.bool x6) := blk_cell HSP.out 6; have k7 : wr.cell? ⟨b4, 7, none⟩ = some (.slice A7 x7.length c7) := blk_cell HSP.out 7
        clear hlv hk64 hk0 ht
        by_cases hnm : x0.toList.isEmpty = false ∧ x0.size ≤ 32
        case neg =>
          have hn : x0.toList.isEmpty = true ∨ (x0.toList.isEmpty = false ∧ 32 < x0.size) := by
            cases e : x0.toList.isEmpty with
            | true => exact .inl rfl
            | false => exact .inr ⟨rfl, by have h2 : ¬ x0.size ≤ 32 := fun h2 => hnm ⟨e, h2⟩; omega⟩
          clear hnm
          have HNM := Aside0.mk hn
          rcases hn with hn | ⟨hn, hn2⟩
          · go_wp2_with (first | (go_at_call 9; refine (sc_Level_calls HS.out).mono ?_; rw [HE.out]; rintro e wl ⟨rfl, rfl⟩) | (go_at_call 11; refine (sc_Declare_name HS.out x0 x1 x2 x3 x4 x5 x6 A7 x7.length c7 HNM.out).mono ?_; rintro e wd ⟨rfl, C2, hI2, hK2⟩; have HK3 := Aside0.mk (HK.out.step HBS.out hK2); clear k0 k1 k2 k3 k4 k5 k6 k7; have k0 : wd.cell? ⟨b4, 0, none⟩ = some (.string x0) := blk_cell HK3.out.h4 0; clear hI2 hK2))
            go_ret
            exact ⟨rfl, HK3.out.below⟩
          · have hz2 : decide ((x0.size : Int) > 32) = true := decide_eq_true (by omega)
            go_wp2_with (first | (go_at_call 9; refine (sc_Level_calls HS.out).mono ?_; rw [HE.out]; rintro e wl ⟨rfl, rfl⟩) | (go_at_call 11; refine (sc_Declare_name HS.out x0 x1 x2 x3 x4 x5 x6 A7 x7.length c7 HNM.out).mono ?_; rintro e wd ⟨rfl, C2, hI2, hK2⟩; have HK3 := Aside0.mk (HK.out.step HBS.out hK2); clear k0 k1 k2 k3 k4 k5 k6 k7; have k0 : wd.cell? ⟨b4, 0, none⟩ = some (.string x0) := blk_cell HK3.out.h4 0; clear hI2 hK2))
            go_ret
            exact ⟨rfl, HK3.out.below⟩
        case pos =>
          have HNM := Aside0.mk hnm
          obtain ⟨hz, hz3⟩ := hnm
          have hz2 : decide ((x0.size : Int) > 32) = false := decide_eq_false (by omega)
          clear hz3
          go_wp2_with (first | (go_at_call 9; refine (sc_Level_calls HS.out).mono ?_; rw [HE.out]; rintro e wl ⟨rfl, rfl⟩) | (go_at_call 11; refine (sc_Declare_yes HS.out x0 x1 x2 x3 x4 x5 x6 A7 x7.length c7 x7 rfl (Kd.C_below HC7.out.2 HK.out.below) ⟨HC7.out.1, by have := HL7.out; omega⟩ HNM.out (by rw [sn_last D k HKP.out]; rfl) (by rw [sn_last D k HKP.out]; decide)).mono ?_; rw [HE.out]; rintro e wd ⟨rfl, C2, hI2, hK2⟩; have HK3 := Aside0.mk (HK.out.step HBS.out hK2); have HS3 := Aside0.mk hI2; clear k0 k1 k2 k3 k4 k5 k6 k7; have k0 : wd.cell? ⟨b4, 0, none⟩ = some (.string x0) := blk_cell HK3.out.h4 0; clear hI2 hK2) | (go_at_call 8; refine (sc_Find_calls HS3.out x0).mono ?_; rw [show sc_find (sc_put (sn_k D k) ⟨x0, x1, x2, (t : Int), x4, x5, x6, x7⟩) x0 = (⟨x0, x1, x2, (t : Int), x4, x5, x6, x7⟩, 0) from sn_find D k HKP.out ⟨x0, x1, x2, (t : Int), x4, x5, x6, x7⟩]; rintro e wf ⟨⟨Ai, ci, rfl, hl, hc⟩, hb⟩; have HS4 := Aside0.mk (HS3.out.below hb); have HK4 := Aside0.mk (HK3.out.move hb); clear hl hc hb k0; dsimp only [sc_cells]) | ((with_reducible refine gate_dst (N := 16) rfl ?_); refine box_event ?hg (N := 16) ?hd (cs := #[.string ⟨#[]⟩, .int .i64 0, .int .i64 0, .int .i64 0, .int .i32 0, .int .i64 0, .bool false, .slice none 0 0]) (t := 25) ?hr ?_; (case hd => rfl); (case hg => rfl); (case hr => first | (go_simp; done) | (go_simp; rfl)); intro b16 hgx wfb hbox hb; have HB16 := Aside0.mk hb; have HX16 := Aside0.mk hbox; have HG16 := Aside0.mk (show wf.heap.size ≤ b16 from Nat.le_of_eq hgx.symm); have v0 : wfb.cell? ⟨b16, 0, none⟩ = some (.string ⟨#[]⟩) := blk_cell hbox 0; have v1 : wfb.cell? ⟨b16, 1, none⟩ = some (.int .i64 0) := blk_cell hbox 1; have v2 : wfb.cell? ⟨b16, 2, none⟩ = some (.int .i64 0) := blk_cell hbox 2; have v3 : wfb.cell? ⟨b16, 3, none⟩ = some (.int .i64 0) := blk_cell hbox 3; have v4 : wfb.cell? ⟨b16, 4, none⟩ = some (.int .i32 0) := blk_cell hbox 4; have v5 : wfb.cell? ⟨b16, 5, none⟩ = some (.int .i64 0) := blk_cell hbox 5; have v6 : wfb.cell? ⟨b16, 6, none⟩ = some (.bool false) := blk_cell hbox 6; have v7 : wfb.cell? ⟨b16, 7, none⟩ = some (.slice none 0 0) := blk_cell hbox 7; have s0 := blk_frozen hbox 0; have s1 := blk_frozen hbox 1; have s2 := blk_frozen hbox 2; have s3 := blk_frozen hbox 3; have s4 := blk_frozen hbox 4; have s5 := blk_frozen hbox 5; have s6 := blk_frozen hbox 6; have s7 := blk_frozen hbox 7; clear hgx hbox hb))
          obtain ⟨W16, hW9⟩ : ∃ W9 : World, ((((((((wfb.setCell ⟨b16, 0, none⟩ (.string x0)).setCell ⟨b16, 1, none⟩ (.int .i64 x1)).setCell ⟨b16, 2, none⟩ (.int .i64 x2)).setCell ⟨b16, 3, none⟩ (.int .i64 (t : Int))).setCell ⟨b16, 4, none⟩ (.int .i32 x4)).setCell ⟨b16, 5, none⟩ (.int .i64 x5)).setCell ⟨b16, 6, none⟩ (.bool x6)).setCell ⟨b16, 7, none⟩ (.slice Ai x7.length ci)) = W9 := ⟨_, rfl⟩
          rw [hW9]
          have hx := sc_put8 HX16.out (.string x0) (.int .i64 x1) (.int .i64 x2) (.int .i64 (t : Int)) (.int .i32 x4) (.int .i64 x5) (.bool x6) (.slice Ai x7.length ci)
          rw [hW9] at hx
          have HN16 := Aside0.mk hx
          have hb := sc_put8b HB16.out HG16.out (.string x0) (.int .i64 x1) (.int .i64 x2) (.int .i64 (t : Int)) (.int .i32 x4) (.int .i64 x5) (.bool x6) (.slice Ai x7.length ci)
          rw [hW9] at hb
          clear hx hW9 HX16 HB16 v0 v1 v2 v3 v4 v5 v6 v7 s0 s1 s2 s3 s4 s5 s6 s7
          have HS5 := Aside0.mk (HS4.out.below hb)
          have HK5 := Aside0.mk (HK4.out.move hb)
          clear hb
          refine wp_region_held_drew (S := fun w' => w'.cell? ⟨b16, 3, none⟩ = some (.int .i64 (t : Int)) ∧ w'.cell? ⟨b16, 4, none⟩ = some (.int .i32 x4) ∧ w'.cell? ⟨b4, 4, none⟩ = some (.int .i32 x4)) (by kernel_rfl) (show W16.drew.cell? ⟨b16, 3, none⟩ = some (.int .i64 (t : Int)) ∧ W16.drew.cell? ⟨b16, 4, none⟩ = some (.int .i32 x4) ∧ W16.drew.cell? ⟨b4, 4, none⟩ = some (.int .i32 x4) from ⟨blk_cell (blk_drew HN16.out) 3, blk_cell (blk_drew HN16.out) 4, blk_cell (blk_drew HK5.out.h4) 4⟩) (fun hHeld => ?_)
          refine C.tk_take (i := 0) (v := ?_) (by kernel_rfl) (by kernel_rfl) (by kernel_rfl) (fun oi hoi => ?_) rfl
          rotate_left
          simp only [List.getElem?_toArray, List.getElem?_cons_succ, List.getElem?_cons_zero] at hoi
          cases hoi
          refine ⟨fun _ _ _ h => h, Or.inl ⟨by rfl, ?_⟩, by assumption, ?_⟩
          · (intro w hSw; (try dsimp only at hSw); go_simp; all_goals with_reducible rfl)
          try simp only [Act.put, List.setIfInBounds_toArray, List.set_cons_zero, List.set_cons_succ]
          refine C.tk_take (i := 1) (v := ?_) (by kernel_rfl) (by kernel_rfl) (by kernel_rfl) (fun oi hoi => ?_) rfl
          rotate_left
          simp only [List.getElem?_toArray, List.getElem?_cons_succ, List.getElem?_cons_zero] at hoi
          cases hoi
          refine ⟨fun _ _ _ h => h, Or.inl ⟨by rfl, ?_⟩, by assumption, ?_⟩
          · (intro w hSw; (try dsimp only at hSw); go_simp; all_goals with_reducible rfl)
          try simp only [Act.put, List.setIfInBounds_toArray, List.set_cons_zero, List.set_cons_succ]
          refine C.tk_take (i := 2) (v := ?_) (by kernel_rfl) (by kernel_rfl) (by kernel_rfl) (fun oi hoi => ?_) rfl
          rotate_left
          simp only [List.getElem?_toArray, List.getElem?_cons_succ, List.getElem?_cons_zero] at hoi
          cases hoi
          refine ⟨fun _ _ _ h => h, Or.inl ⟨by rfl, ?_⟩, by assumption, ?_⟩
          · (intro w hSw; (try dsimp only at hSw); go_simp; all_goals with_reducible rfl)
          try simp only [Act.put, List.setIfInBounds_toArray, List.set_cons_zero, List.set_cons_succ]
          refine C.tk_take (i := 3) (v := ?_) (by kernel_rfl) (by kernel_rfl) (by kernel_rfl) (fun oi hoi => ?_) rfl
          rotate_left
          simp only [List.getElem?_toArray, List.getElem?_cons_succ, List.getElem?_cons_zero] at hoi
          cases hoi
          refine ⟨fun _ _ _ h => h, Or.inl ⟨by rfl, ?_⟩, by assumption, ?_⟩
          · (intro w hSw; (try dsimp only at hSw); go_simp; all_goals with_reducible rfl)
          try simp only [Act.put, List.setIfInBounds_toArray, List.set_cons_zero, List.set_cons_succ]
          refine C.tk_take (i := 4) (v := ?_) (by kernel_rfl) (by kernel_rfl) (by kernel_rfl) (fun oi hoi => ?_) rfl
          rotate_left
          simp only [List.getElem?_toArray, List.getElem?_cons_succ, List.getElem?_cons_zero] at hoi
          cases hoi
          refine ⟨fun _ _ _ h => h, Or.inl ⟨by rfl, ?_⟩, by assumption, ?_⟩
          · (intro w hSw; (try dsimp only at hSw); go_simp; all_goals with_reducible rfl)
          try simp only [Act.put, List.setIfInBounds_toArray, List.set_cons_zero, List.set_cons_succ]
          refine C.tk_take (i := 5) (v := ?_) (by kernel_rfl) (by kernel_rfl) (by kernel_rfl) (fun oi hoi => ?_) rfl
          rotate_left
          simp only [List.getElem?_toArray, List.getElem?_cons_succ, List.getElem?_cons_zero] at hoi
          cases hoi
          refine ⟨fun _ _ _ h => h, Or.inl ⟨by rfl, ?_⟩, by assumption, ?_⟩
          · (intro w hSw; (try dsimp only at hSw); go_simp; all_goals with_reducible rfl)
          try simp only [Act.put, List.setIfInBounds_toArray, List.set_cons_zero, List.set_cons_succ]
          refine C.tk_take (i := 6) (v := ?_) (by kernel_rfl) (by kernel_rfl) (by kernel_rfl) (fun oi hoi => ?_) rfl
          rotate_left
          simp only [List.getElem?_toArray, List.getElem?_cons_succ, List.getElem?_cons_zero] at hoi
          cases hoi
          refine ⟨fun _ _ _ h => h, Or.inl ⟨by rfl, ?_⟩, by assumption, ?_⟩
          · (intro w hSw; (try dsimp only at hSw); go_simp; all_goals with_reducible rfl)
          try simp only [Act.put, List.setIfInBounds_toArray, List.set_cons_zero, List.set_cons_succ]
          refine C.tk_take (i := 7) (v := ?_) (by kernel_rfl) (by kernel_rfl) (by kernel_rfl) (fun oi hoi => ?_) rfl
          rotate_left
          simp only [List.getElem?_toArray, List.getElem?_cons_succ, List.getElem?_cons_zero] at hoi
          cases hoi
          refine ⟨fun _ _ _ h => h, Or.inl ⟨by rfl, ?_⟩, by assumption, ?_⟩
          · (intro w hSw; (try dsimp only at hSw); go_simp; all_goals with_reducible rfl)
          try simp only [Act.put, List.setIfInBounds_toArray, List.set_cons_zero, List.set_cons_succ]
          refine C.tk_take (i := 8) (v := ?_) (by kernel_rfl) (by kernel_rfl) (by kernel_rfl) (fun oi hoi => ?_) rfl
          rotate_left
          simp only [List.getElem?_toArray, List.getElem?_cons_succ, List.getElem?_cons_zero] at hoi
          cases hoi
          refine ⟨fun _ _ _ h => h, Or.inl ⟨by rfl, ?_⟩, by assumption, ?_⟩
          · (intro w hSw; (try dsimp only at hSw); go_simp; all_goals with_reducible rfl)
          try simp only [Act.put, List.setIfInBounds_toArray, List.set_cons_zero, List.set_cons_succ]
          refine C.tk_take (i := 9) (v := ?_) (by kernel_rfl) (by kernel_rfl) (by kernel_rfl) (fun oi hoi => ?_) rfl
          rotate_left
          simp only [List.getElem?_toArray, List.getElem?_cons_succ, List.getElem?_cons_zero] at hoi
          cases hoi
          refine ⟨fun _ _ _ h => h, Or.inl ⟨by rfl, ?_⟩, by assumption, ?_⟩
          · (intro w hSw; (try dsimp only at hSw); go_simp; all_goals with_reducible rfl)
          try simp only [Act.put, List.setIfInBounds_toArray, List.set_cons_zero, List.set_cons_succ]
          refine C.tk_take (i := 10) (v := ?_) (by kernel_rfl) (by kernel_rfl) (by kernel_rfl) (fun oi hoi => ?_) rfl
          rotate_left
          simp only [List.getElem?_toArray, List.getElem?_cons_succ, List.getElem?_cons_zero] at hoi
          cases hoi
          refine ⟨fun _ _ _ h => h, Or.inl ⟨by rfl, ?_⟩, by assumption, ?_⟩
          · (intro w hSw; (try dsimp only at hSw); go_simp; all_goals with_reducible rfl)
          try simp only [Act.put, List.setIfInBounds_toArray, List.set_cons_zero, List.set_cons_succ]
          refine C.tk_take (i := 11) (v := ?_) (by kernel_rfl) (by kernel_rfl) (by kernel_rfl) (fun oi hoi => ?_) rfl
          rotate_left
          simp only [List.getElem?_toArray, List.getElem?_cons_succ, List.getElem?_cons_zero] at hoi
          cases hoi
          refine ⟨fun _ _ _ h => h, Or.inl ⟨by rfl, ?_⟩, by assumption, ?_⟩
          · (intro w hSw; (try dsimp only at hSw); go_simp; all_goals with_reducible rfl)
          try simp only [Act.put, List.setIfInBounds_toArray, List.set_cons_zero, List.set_cons_succ]
          refine C.tk_take (i := 12) (v := ?_) (by kernel_rfl) (by kernel_rfl) (by kernel_rfl) (fun oi hoi => ?_) rfl
          rotate_left
          simp only [List.getElem?_toArray, List.getElem?_cons_succ, List.getElem?_cons_zero] at hoi
          cases hoi
          refine ⟨fun _ _ _ h => h, Or.inl ⟨by rfl, ?_⟩, by assumption, ?_⟩
          · (intro w hSw; (try dsimp only at hSw); go_simp; all_goals with_reducible rfl)
          try simp only [Act.put, List.setIfInBounds_toArray, List.set_cons_zero, List.set_cons_succ]
          refine C.tk_take (i := 13) (v := ?_) (by kernel_rfl) (by kernel_rfl) (by kernel_rfl) (fun oi hoi => ?_) rfl
          rotate_left
          simp only [List.getElem?_toArray, List.getElem?_cons_succ, List.getElem?_cons_zero] at hoi
          cases hoi
          refine ⟨fun _ _ _ h => h, Or.inl ⟨by rfl, ?_⟩, by assumption, ?_⟩
          · (intro w hSw; (try dsimp only at hSw); go_simp; all_goals with_reducible rfl)
          try simp only [Act.put, List.setIfInBounds_toArray, List.set_cons_zero, List.set_cons_succ]
          refine C.tk_take (i := 14) (v := ?_) (by kernel_rfl) (by kernel_rfl) (by kernel_rfl) (fun oi hoi => ?_) rfl
          rotate_left
          simp only [List.getElem?_toArray, List.getElem?_cons_succ, List.getElem?_cons_zero] at hoi
          cases hoi
          refine ⟨fun _ _ _ h => h, Or.inl ⟨by rfl, ?_⟩, by assumption, ?_⟩
          · (intro w hSw; (try dsimp only at hSw); go_simp; all_goals with_reducible rfl)
          try simp only [Act.put, List.setIfInBounds_toArray, List.set_cons_zero, List.set_cons_succ]
          refine C.tk_take (i := 15) (v := ?_) (by kernel_rfl) (by kernel_rfl) (by kernel_rfl) (fun oi hoi => ?_) rfl
          rotate_left
          simp only [List.getElem?_toArray, List.getElem?_cons_succ, List.getElem?_cons_zero] at hoi
          cases hoi
          refine ⟨fun _ _ _ h => h, Or.inl ⟨by rfl, ?_⟩, by assumption, ?_⟩
          · (intro w hSw; (try dsimp only at hSw); go_simp; all_goals with_reducible rfl)
          try simp only [Act.put, List.setIfInBounds_toArray, List.set_cons_zero, List.set_cons_succ]
          refine C.tk_take (i := 16) (v := ?_) (by kernel_rfl) (by kernel_rfl) (by kernel_rfl) (fun oi hoi => ?_) rfl
          rotate_left
          simp only [List.getElem?_toArray, List.getElem?_cons_succ, List.getElem?_cons_zero] at hoi
          cases hoi
          refine ⟨fun _ _ _ h => h, Or.inl ⟨by rfl, ?_⟩, by assumption, ?_⟩
          · (intro w hSw; (try dsimp only at hSw); go_simp; all_goals with_reducible rfl)
          try simp only [Act.put, List.setIfInBounds_toArray, List.set_cons_zero, List.set_cons_succ]
          refine wpAnyH_ready (rs := [17]) (by kernel_rfl) (by simp) ?_
          refine AllReadyH.cons rfl (fun K hK => ?_) AllReadyH.nil
          rw [if_pos (by rfl)]
          go_simp
          go_at_call 9
          refine (sc_Level_calls (HS5.out.below (below_drew (Below.refl _ _)))).mono ?_
          rw [show (((sc_put (sn_k D k) ⟨x0, x1, x2, (t : Int), x4, x5, x6, x7⟩).length : Int) - 1) = (t : Int) by rw [sn_plen]; exact HE.out]
          rintro e wq ⟨rfl, rfl⟩
          go_wp2
          refine hK.out _ _ (by assumption) (fun hHeld => ?_)
          clear hK
          try simp only [Act.put, List.setIfInBounds_toArray, List.set_cons_zero, List.set_cons_succ]
          refine C.tk_take (i := 18) (v := ?_) (by kernel_rfl) (by kernel_rfl) (by kernel_rfl) (fun oi hoi => ?_) rfl
          rotate_left
          simp only [List.getElem?_toArray, List.getElem?_cons_succ, List.getElem?_cons_zero] at hoi
          cases hoi
          refine ⟨fun _ _ _ h => h, Or.inl ⟨by rfl, ?_⟩, by assumption, ?_⟩
          · (intro w hSw; (try dsimp only at hSw); go_simp; all_goals with_reducible rfl)
          try simp only [Act.put, List.setIfInBounds_toArray, List.set_cons_zero, List.set_cons_succ]
          refine C.tk_take (i := 19) (v := ?_) (by kernel_rfl) (by kernel_rfl) (by kernel_rfl) (fun oi hoi => ?_) rfl
          rotate_left
          simp only [List.getElem?_toArray, List.getElem?_cons_succ, List.getElem?_cons_zero] at hoi
          cases hoi
          refine ⟨fun _ _ _ h => h, Or.inl ⟨by rfl, ?_⟩, by assumption, ?_⟩
          · (intro w hSw; (try dsimp only at hSw); go_simp; all_goals with_reducible rfl)
          try simp only [Act.put, List.setIfInBounds_toArray, List.set_cons_zero, List.set_cons_succ]
          refine wpAnyH_done (by kernel_rfl) ?_ _
          generalize hW17 : W16.drew = W17 at *
          have HS6 := Aside0.mk (show IsS base W17 g C2 ((sc_put (sn_k D k) ⟨x0, x1, x2, (t : Int), x4, x5, x6, x7⟩).take (lev + 1 + k - 0)) M by rw [← hW17, List.take_of_length_le (by rw [sn_plen, sn_len, HLEV.out]; omega)]; exact HS5.out.below (below_drew (Below.refl _ _)))
          have HK6 := Aside0.mk (show SnK w W17 C2 b4 b10 (.cells #[.string x0, .int .i64 x1, .int .i64 x2, .int .i64 x3, .int .i32 x4, .int .i64 x5, .bool x6, .slice A7 x7.length c7] 25 (0, 0)) (.cells #[.string p0, .int .i64 p1, .int .i64 p2, .int .i64 p3, .int .i32 p4, .int .i64 p5, .bool p6, .slice Ap p7.length cp] 25 (0, 0)) by rw [← hW17]; exact HK5.out.move (below_drew (Below.refl _ _)))
          clear hW17 HS5 HK5 HN16 HS4 HK4 hHeld
          go_wp2
          go_loopg [18] (k + 1) (fun ky v18 wr2 => ∃ (j : Nat) (C3 : Nat → Nat), v18 = .int .i64 j ∧ Aside0 (j + ky = k + 1 ∧ j ≤ k) ∧ Aside0 (IsS base wr2 g C3 ((sc_put (sn_k D k) ⟨x0, x1, x2, (t : Int), x4, x5, x6, x7⟩).take (lev + 1 + k - j)) M) ∧ Aside0 (SnK w wr2 C3 b4 b10 (.cells #[.string x0, .int .i64 x1, .int .i64 x2, .int .i64 x3, .int .i32 x4, .int .i64 x5, .bool x6, .slice A7 x7.length c7] 25 (0, 0)) (.cells #[.string p0, .int .i64 p1, .int .i64 p2, .int .i64 p3, .int .i32 p4, .int .i64 p5, .bool p6, .slice Ap p7.length cp] 25 (0, 0))))
          case atStart => exact ⟨0, C2, rfl, ⟨⟨by omega, by omega⟩⟩, HS6, HK6⟩
          case round =>
            obtain ⟨j, C3, rfl, HJ, HSJ, HKJ⟩ := hrel
            have hj := HJ.out
            have htk := HT.out
            have hkk := HK64.out
            have hlv := HLEV.out
            have hlen : ((sc_put (sn_k D k) ⟨x0, x1, x2, (t : Int), x4, x5, x6, x7⟩).take (lev + 1 + k - j)).length = lev + 1 + k - j := by rw [List.length_take, sn_plen, sn_len]; omega
            have j1 : (0 : Int) ≤ (j : Int) := by omega
            have j2 : (j : Int) < 70 := by omega
            have j2b : decide ((j : Int) < 70) = true := decide_eq_true j2
            have j2c : decide (j < 70) = true := decide_eq_true (by omega)
            by_cases hjk : j < k
            · obtain ⟨y, hy⟩ : ∃ y, y = lev + k - j := ⟨_, rfl⟩
              have HEJ := Aside0.mk (show ((((sc_put (sn_k D k) ⟨x0, x1, x2, (t : Int), x4, x5, x6, x7⟩).take (lev + 1 + k - j)).length : Int) - 1) = (y : Int) by rw [hlen]; omega)
              have y1 : (lev : Int) < (y : Int) := by omega
              have y2 : decide ((y : Int) > (lev : Int)) = true := decide_eq_true y1
              have y3 : decide (lev < y) = true := decide_eq_true (by omega)
              have HLJ := Aside0.mk (show 1 < ((sc_put (sn_k D k) ⟨x0, x1, x2, (t : Int), x4, x5, x6, x7⟩).take (lev + 1 + k - j)).length by rw [hlen]; omega)
              have HDJ := Aside0.mk (sn_drop (sc_put (sn_k D k) ⟨x0, x1, x2, (t : Int), x4, x5, x6, x7⟩) (lev + 1 + k - j) (by rw [sn_plen, sn_len]; omega))
              have HJK := Aside0.mk hjk
              clear hj htk hkk hlv hlen hjk hy
              go_wp2_with (first | (go_at_call 9; refine (sc_Level_calls HSJ.out).mono ?_; rw [HEJ.out]; rintro e wl ⟨rfl, rfl⟩) | (go_at_call 12; refine (sc_Close_yes HSJ.out HLJ.out).mono ?_; rintro e wc ⟨rfl, C4, hI2, hK2⟩; have HIC := Aside0.mk hI2; have HKC := Aside0.mk hK2; clear hI2 hK2))
              go_roundg (k - j)
              case measure => have := HJ.out; have := HJK.out; omega
              case rel => exact ⟨j + 1, C4, (by first | rfl | (simp; done)), ⟨by have := HJ.out; have := HJK.out; omega⟩, ⟨by have h2 := HIC.out; rw [HDJ.out, show lev + 1 + k - j - 1 = lev + 1 + k - (j + 1) by omega] at h2; exact h2⟩, ⟨HKJ.out.step HBS.out HKC.out⟩⟩
            · have HEJ := Aside0.mk (show ((((sc_put (sn_k D k) ⟨x0, x1, x2, (t : Int), x4, x5, x6, x7⟩).take (lev + 1 + k - j)).length : Int) - 1) = (lev : Int) by rw [hlen]; omega)
              have HSD := Aside0.mk (show IsS base wr g C3 D M by have h2 := HSJ.out; rw [show lev + 1 + k - j = D.length by omega, sn_end D k HKP.out] at h2; exact h2)
              have k0 : wr.cell? ⟨b4, 0, none⟩ = some (.string x0) := blk_cell HKJ.out.h4 0
              clear hj htk hkk hlv hlen hjk
              go_wp2_with (first | (go_at_call 9; refine (sc_Level_calls HSJ.out).mono ?_; rw [HEJ.out]; rintro e wl ⟨rfl, rfl⟩) | (go_at_call 8; refine (sc_Find_calls HSD.out x0).mono ?_; rw [HRP.out]; rintro e wn ⟨⟨Aq, cq, rfl, hl, hc⟩, hb⟩; have HK7 := Aside0.mk (HKJ.out.move hb); clear hl hc hb k0; dsimp only [sc_cells]) | ((with_reducible refine gate_dst (N := 19) rfl ?_); refine box_event ?hg (N := 19) ?hd (cs := #[.string ⟨#[]⟩, .int .i64 0, .int .i64 0, .int .i64 0, .int .i32 0, .int .i64 0, .bool false, .slice none 0 0]) (t := 25) ?hr ?_; (case hd => rfl); (case hg => rfl); (case hr => first | (go_simp; done) | (go_simp; rfl)); intro b19 hgx wnb hbox hb; have HB19 := Aside0.mk hb; have HX19 := Aside0.mk hbox; have HG19 := Aside0.mk (show wn.heap.size ≤ b19 from Nat.le_of_eq hgx.symm); have v0 : wnb.cell? ⟨b19, 0, none⟩ = some (.string ⟨#[]⟩) := blk_cell hbox 0; have v1 : wnb.cell? ⟨b19, 1, none⟩ = some (.int .i64 0) := blk_cell hbox 1; have v2 : wnb.cell? ⟨b19, 2, none⟩ = some (.int .i64 0) := blk_cell hbox 2; have v3 : wnb.cell? ⟨b19, 3, none⟩ = some (.int .i64 0) := blk_cell hbox 3; have v4 : wnb.cell? ⟨b19, 4, none⟩ = some (.int .i32 0) := blk_cell hbox 4; have v5 : wnb.cell? ⟨b19, 5, none⟩ = some (.int .i64 0) := blk_cell hbox 5; have v6 : wnb.cell? ⟨b19, 6, none⟩ = some (.bool false) := blk_cell hbox 6; have v7 : wnb.cell? ⟨b19, 7, none⟩ = some (.slice none 0 0) := blk_cell hbox 7; have s0 := blk_frozen hbox 0; have s1 := blk_frozen hbox 1; have s2 := blk_frozen hbox 2; have s3 := blk_frozen hbox 3; have s4 := blk_frozen hbox 4; have s5 := blk_frozen hbox 5; have s6 := blk_frozen hbox 6; have s7 := blk_frozen hbox 7; clear hgx hbox hb) | ((with_reducible refine gate_dst (N := 127) rfl ?_); obtain ⟨W19, hW9⟩ : ∃ W9 : World, ((((((((wnb.setCell ⟨b19, 0, none⟩ (.string p0)).setCell ⟨b19, 1, none⟩ (.int .i64 p1)).setCell ⟨b19, 2, none⟩ (.int .i64 p2)).setCell ⟨b19, 3, none⟩ (.int .i64 p3)).setCell ⟨b19, 4, none⟩ (.int .i32 p4)).setCell ⟨b19, 5, none⟩ (.int .i64 p5)).setCell ⟨b19, 6, none⟩ (.bool p6)).setCell ⟨b19, 7, none⟩ (.slice Aq p7.length cq)) = W9 := ⟨_, rfl⟩; rw [hW9]; have hx := sc_put8 HX19.out (.string p0) (.int .i64 p1) (.int .i64 p2) (.int .i64 p3) (.int .i32 p4) (.int .i64 p5) (.bool p6) (.slice Aq p7.length cq); rw [hW9] at hx; have HN19 := Aside0.mk hx; have hb := sc_put8b HB19.out HG19.out (.string p0) (.int .i64 p1) (.int .i64 p2) (.int .i64 p3) (.int .i32 p4) (.int .i64 p5) (.bool p6) (.slice Aq p7.length cq); rw [hW9] at hb; clear hx hW9 HX19 HB19 v0 v1 v2 v3 v4 v5 v6 v7 s0 s1 s2 s3 s4 s5 s6 s7; have HK8 := Aside0.mk (HK7.out.move hb); have q1 : W19.cell? ⟨b19, 1, none⟩ = some (.int .i64 p1) := blk_cell HN19.out 1; have q3 : W19.cell? ⟨b19, 3, none⟩ = some (.int .i64 p3) := blk_cell HN19.out 3; have q4 : W19.cell? ⟨b19, 4, none⟩ = some (.int .i32 p4) := blk_cell HN19.out 4; have u1 : W19.cell? ⟨b10, 1, none⟩ = some (.int .i64 p1) := blk_cell HK8.out.h10 1; have u3 : W19.cell? ⟨b10, 3, none⟩ = some (.int .i64 p3) := blk_cell HK8.out.h10 3; have u4 : W19.cell? ⟨b10, 4, none⟩ = some (.int .i32 p4) := blk_cell HK8.out.h10 4; clear hb HK7) | ((with_reducible refine gate_dst (N := 132) rfl ?_); obtain ⟨W19, hW9⟩ : ∃ W9 : World, ((((((((wnb.setCell ⟨b19, 0, none⟩ (.string p0)).setCell ⟨b19, 1, none⟩ (.int .i64 p1)).setCell ⟨b19, 2, none⟩ (.int .i64 p2)).setCell ⟨b19, 3, none⟩ (.int .i64 p3)).setCell ⟨b19, 4, none⟩ (.int .i32 p4)).setCell ⟨b19, 5, none⟩ (.int .i64 p5)).setCell ⟨b19, 6, none⟩ (.bool p6)).setCell ⟨b19, 7, none⟩ (.slice Aq p7.length cq)) = W9 := ⟨_, rfl⟩; rw [hW9]; have hx := sc_put8 HX19.out (.string p0) (.int .i64 p1) (.int .i64 p2) (.int .i64 p3) (.int .i32 p4) (.int .i64 p5) (.bool p6) (.slice Aq p7.length cq); rw [hW9] at hx; have HN19 := Aside0.mk hx; have hb := sc_put8b HB19.out HG19.out (.string p0) (.int .i64 p1) (.int .i64 p2) (.int .i64 p3) (.int .i32 p4) (.int .i64 p5) (.bool p6) (.slice Aq p7.length cq); rw [hW9] at hb; clear hx hW9 HX19 HB19 v0 v1 v2 v3 v4 v5 v6 v7 s0 s1 s2 s3 s4 s5 s6 s7; have HK8 := Aside0.mk (HK7.out.move hb); have q1 : W19.cell? ⟨b19, 1, none⟩ = some (.int .i64 p1) := blk_cell HN19.out 1; have q3 : W19.cell? ⟨b19, 3, none⟩ = some (.int .i64 p3) := blk_cell HN19.out 3; have q4 : W19.cell? ⟨b19, 4, none⟩ = some (.int .i32 p4) := blk_cell HN19.out 4; have u1 : W19.cell? ⟨b10, 1, none⟩ = some (.int .i64 p1) := blk_cell HK8.out.h10 1; have u3 : W19.cell? ⟨b10, 3, none⟩ = some (.int .i64 p3) := blk_cell HK8.out.h10 3; have u4 : W19.cell? ⟨b10, 4, none⟩ = some (.int .i32 p4) := blk_cell HK8.out.h10 4; clear hb HK7))
              go_ret
              exact ⟨rfl, HK8.out.below⟩

end Go.Proofs.Ytkgjpelddncfdaa.P

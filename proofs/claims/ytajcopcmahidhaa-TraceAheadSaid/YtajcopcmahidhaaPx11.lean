-- Written by a program of this session (wip/tools/hp.py) out of the translation.
import Derived.Test.YtajcopcmahidhaaPx0
import Derived.Test.YtajcopcmahidhaaPx4
import Derived.Test.YtajcopcmahidhaaPx10
namespace Go.Proofs.Ytajcopcmahidhaa.P
open Go.RowKit Go.Proofs.YtajcopcmahidhaaW.PrintWords Go.Proofs.YtajcopcmahidhaaW.PrintLast Go.Proofs.YtajcopcmahidhaaW.PrintMore
attribute [local go_sem] max2_int min2_int max_two min_two max_three min_three max_four min_four   -- for this text's walks alone
set_option linter.unusedVariables false
set_option linter.unusedSimpArgs false

-- NOT PRINTED: function 28 (strings_Builder_WriteString)

/-! ### trace_Text: function 15 -/
theorem sb_below {T e B b : Nat} {bs : List Value} {w w' : World} (h : Lib.IsBuilderF T e B b bs w) (hb : Below w.heap.size w w') : Lib.IsBuilderF T e B b bs w' := by
  have one : ∀ p, Lib.BuilderAtF T e B b p bs w → Lib.BuilderAtF T e B b p bs w' := by
    intro p ⟨hB, v, hbk, ⟨hl, hown⟩, hne⟩
    refine ⟨hB, v, (hb.block b (blk_lt hbk)).trans hbk, ⟨hl, ?_⟩, hne⟩
    rcases hown with hn | ⟨g, cap, cur, fz, hv, hg, hgk, rest⟩
    · exact .inl hn
    · exact .inr ⟨g, cap, cur, fz, hv, hg, (hb.block g (blk_lt hgk)).trans hgk, rest⟩
  rcases h with h | h
  · exact .inl (one _ h)
  · exact .inr (one _ h)
def tx_lines (ln : S27 → ByteArray) (l : List S27) : List UInt8 := l.flatMap (fun x => (ln x).data.toList ++ [10])
theorem tx_lines_snoc (ln : S27 → ByteArray) (l : List S27) (x : S27) : tx_lines ln (l ++ [x]) = tx_lines ln l ++ (ln x).data.toList ++ [10] := by
  unfold tx_lines; simp
theorem tx_cells (s : ByteArray) : Lib.strCells s = Lib.byteCells s.data.toList := by
  unfold Lib.strCells Lib.byteCells
  rfl
set_option maxHeartbeats 4000000 in
set_option maxRecDepth 100000 in
theorem trace_Text.calls (k : Nat) (ln : S27 → ByteArray) (A : Option Addr) (c : Nat) (l : List S27) (w : World) (hl : l.length ≤ 1000) (hln : ∀ x ∈ l, trace_Line.f k x.f0 x.f1 = some (ln x) ∧ (ln x).size ≤ 1000) (hC : Kd.C k27 w A l.length l) :
    Calls Try.prog 15 #[.slice A l.length c] w fun e w' => e = .returned (.string ⟨(tx_lines ln l).toArray⟩) ∧ Below w.heap.size w w' := by
  have HC := Aside0.mk hC
  have HLN := Aside0.mk hln
  clear hC hln
  go_enter Try.func15, Try.ntmps15
  go_wp2
  go_loopg [8] (l.length + 1) (fun kx v8 wr => ∃ i : Nat, v8 = .int .i64 i ∧ Aside0 (i + kx = l.length + 1 ∧ i ≤ l.length) ∧ Aside0 (Lib.IsBuilderF 51 5 w.heap.size w.heap.size (Lib.byteCells (tx_lines ln (l.take i))) wr ∧ Below w.heap.size w wr ∧ (tx_lines ln (l.take i)).length ≤ 1001 * i))
  case atStart => exact ⟨0, rfl, ⟨⟨by omega, by omega⟩⟩, ⟨⟨Lib.IsBuilderF.of (Lib.fresh_isBuilder 51 5 w), below_alloc (Below.refl _ _) _, by simp [tx_lines]⟩⟩⟩
  case round =>
    obtain ⟨i, rfl, I, HW⟩ := hrel
    by_cases hi : i < l.length
    · obtain ⟨ad, e, hx0, hx1⟩ := at_T27 HC.out (i : Int) (by omega) (by omega)
      cases e
      rw [Int.toNat_natCast] at hx0 hx1
      have er : rd_T27 l (i : Int) = l[i] := by unfold rd_T27; rw [Int.toNat_natCast]; simp [List.getD_eq_getElem?_getD, hi]
      have htk : l.take (i + 1) = l.take i ++ [rd_T27 l (i : Int)] := by rw [er, List.take_succ_eq_append_getElem hi]
      have hlx := HLN.out (rd_T27 l (i : Int)) (by rw [er]; exact List.getElem_mem _)
      generalize hz : rd_T27 l (i : Int) = z at hx0 hx1 htk hlx
      obtain ⟨x, y⟩ := z
      have HT := Aside0.mk htk
      have HX := Aside0.mk hlx
      clear er hz htk hlx
      replace hx0 := (HW.out.2.1.cell (World.block_lt_of_cell? w _ hx0)).trans hx0
      replace hx1 := (HW.out.2.1.cell (World.block_lt_of_cell? w _ hx1)).trans hx1
      dsimp only at hx0 hx1
      have hi1 : (i : Int) < (l.length : Int) := by omega
      have hi0 : (0 : Int) ≤ (i : Int) := by omega
      have hi2 : (i : Int) ≤ 1000 := by omega
      go_wp2_with (first
        | (go_at_call 11; ((with_reducible refine (trace_Line.calls k x y (ln ⟨x, y⟩) _ HX.out.1).mono ?_)); rintro e w3 ⟨rfl, hb⟩; have HB3 := Aside0.mk (show Below wr.heap.size wr w3 from below_step (by repeat (first | exact Below.refl _ _ | apply below_alloc | refine below_set ?_ (by simp))) hb); have HU3 := Aside0.mk (sb_below HW.out.1 HB3.out); clear hb)
        | (go_at_call 28; ((with_reducible refine (sb_str w.heap.size w.heap.size _ (ln ⟨x, y⟩) _ HU3.out (by have := HW.out.2.2; have := HX.out.2; rw [Lib.byteCells_length]; omega) (by have := HW.out.2.1.size; have := HB3.out.size; omega)).mono ?_)); rintro e w4 ⟨rfl, h1, hb, _⟩; have HB4 := Aside0.mk (show Below w.heap.size w w4 from below_step HW.out.2.1 HB3.out |>.trans hb); have HU4 := Aside0.mk (show Lib.IsBuilderF 51 5 w.heap.size w.heap.size _ w4 from .inr h1); clear hb h1 HU3)
        | (go_at_call 29; ((with_reducible refine (sb_byte w.heap.size w.heap.size _ 10 _ HU4.out (by have := HW.out.2.2; have := HX.out.2; rw [List.length_append, Lib.byteCells_length, Lib.strCells_length]; omega) HB4.out.size).mono ?_)); rintro e w5 ⟨rfl, h1, hb, _⟩; have HB5 := Aside0.mk (HB4.out.trans hb); have HU5 := Aside0.mk (show Lib.IsBuilderF 51 5 w.heap.size w.heap.size _ w5 from .inr h1); clear hb h1 HU4 HB4))
      have HE := Aside0.mk (show Lib.byteCells (tx_lines ln (l.take i)) ++ Lib.strCells (ln ⟨x, y⟩) ++ [.int .u8 10] = Lib.byteCells (tx_lines ln (l.take (i + 1))) from by
        rw [HT.out, tx_lines_snoc, Lib.byteCells_append, Lib.byteCells_append, tx_cells]; rfl)
      go_roundg (l.length - i)
      case measure => have := I.out; omega
      case rel => exact ⟨i + 1, by first | rfl | (simp; done), ⟨by have := I.out; omega⟩, ⟨by rw [← HE.out]; exact HU5.out, HB5.out, by
        have h1 := HW.out.2.2
        have h2 := HX.out.2
        have h3 : (ln ⟨x, y⟩).data.toList.length = (ln ⟨x, y⟩).size := data_length _
        rw [HT.out, tx_lines_snoc, List.length_append, List.length_append, h3]
        simp only [List.length_singleton]
        omega⟩⟩
    · have hi1 : decide ((i : Int) < (l.length : Int)) = false := decide_eq_false (by omega)
      have HI := Aside0.mk (show i = l.length by have := I.out; omega)
      go_wp2_with (go_at_call 30; ((with_reducible refine (Go.Proofs.Ytajcopcmahidhaa.C.sh_Builder_String_any_k w.heap.size w.heap.size _ _ HW.out.1 HW.out.2.1.size).mono ?_)); rintro e w4 ⟨rfl, _, hb, _⟩; have HB4 := Aside0.mk (HW.out.2.1.trans hb); clear hb)
      go_ret
      exact ⟨by rw [HI.out, List.take_length]; rfl, HB4.out⟩

/-! ### pascalineref29_Text: function 16 -/
def pascalineref29_Text.l0 : Nat → List (S27) → ByteArray → Int → Option (ByteArray)
  | 0, _, _, _ => none
  | k + 1, x0, x3, x4 => if x4 < (x0.length : Int) then (if 0 ≤ x4 then ((pascalineref29_Line.f ((rd_T27 x0 x4).f0) ((rd_T27 x0 x4).f1)).bind fun t163 => (if x3.size + t163.size ≤ 9223372036854775807 then (if (x3 ++ t163).size + 1 ≤ 9223372036854775807 then (pascalineref29_Text.l0 k x0 ((x3 ++ t163) ++ (⟨#[10]⟩ : ByteArray)) (wrap64 (x4 + 1))) else (none)) else (none))) else (none)) else (some x3)
def pascalineref29_Text.f (k : Nat) (l0 : List (S27)) : Option (ByteArray) := pascalineref29_Text.l0 k l0 (⟨#[]⟩ : ByteArray) 0
theorem pascalineref29_Text.mono_l : ∀ k, (∀ y0 y1 y2, LeO (pascalineref29_Text.l0 k y0 y1 y2) (pascalineref29_Text.l0 (k + 1) y0 y1 y2))
  | 0 => fun _ _ _ r h => by simp [pascalineref29_Text.l0] at h
  | k + 1 => by
    have ih0 := pascalineref29_Text.mono_l k
    · intro y0 y1 y2
      unfold pascalineref29_Text.l0
      repeat' first
      | (with_reducible exact ih0 _ _ _)
      | (with_reducible exact LeO.refl _)
      | (with_reducible exact LeO.none _)
      | (with_reducible refine LeO.ite ?_ ?_)
      | (with_reducible refine LeO.bind ?_ (fun _ => ?_))
      | exact ih0 _ _ _
      | exact LeO.none _
      | refine LeO.ite ?_ ?_
      | refine LeO.bind ?_ (fun _ => ?_)
theorem pascalineref29_Text.mono : ∀ a0 k, LeO (pascalineref29_Text.f k a0) (pascalineref29_Text.f (k + 1) a0) := by
  intro a0 k
  have ih0 := pascalineref29_Text.mono_l k
  unfold pascalineref29_Text.f
  repeat' first
      | (with_reducible exact ih0 _ _ _)
      | (with_reducible exact LeO.refl _)
      | (with_reducible exact LeO.none _)
      | (with_reducible refine LeO.ite ?_ ?_)
      | (with_reducible refine LeO.bind ?_ (fun _ => ?_))
      | exact ih0 _ _ _
      | exact LeO.none _
      | refine LeO.ite ?_ ?_
      | refine LeO.bind ?_ (fun _ => ?_)
set_option maxHeartbeats 8000000 in
set_option maxRecDepth 100000 in
theorem pascalineref29_Text.calls (k : Nat) (A0 : Option Addr) (c0 : Nat) (l0 : List (S27)) (r : ByteArray) (w : World) (hr0 : Kd.C k27 w A0 l0.length l0) (hc0 : l0.length ≤ c0) (h : pascalineref29_Text.f k l0 = some r) :
    Calls Try.prog 16 #[.slice A0 l0.length c0] w fun e w' => e = .returned (.string r) ∧ Below w.heap.size w w' := by
  have hu27 := Try.underlying27
  have HR0 := Aside0.mk hr0
  have HC0 := Aside0.mk hc0
  clear hr0 hc0
  have HB := Aside0.mk (Below.refl w.heap.size w)
  have H : (pascalineref29_Text.l0 k l0 (⟨#[]⟩ : ByteArray) 0) = some r := h
  clear h
  have H' := Aside0.mk H
  clear H
  go_enter Try.func16, Try.ntmps16
  go_wp2
  go_loopg [3, 4] k (fun kq v3 v4 w' => ∃ (x3_1 : ByteArray) (x4_1 : Int), v3 = .string x3_1 ∧ v4 = .int .i64 x4_1 ∧ Aside0 (pascalineref29_Text.l0 kq l0 x3_1 x4_1 = some r) ∧ Aside0 (kq ≤ k) ∧ Aside0 (Below w.heap.size w w'))
  case atStart => exact ⟨((⟨#[]⟩ : ByteArray)), (0), (by first | rfl | (simp; done) | (simp [*]; done)), (by first | rfl | (simp; done) | (simp [*]; done)), H', ⟨Nat.le_refl _⟩, ⟨by repeat (first | (with_reducible first | exact HB.out | apply below_alloc | apply pw_below_drewN | apply below_drew1) | exact HB.out)⟩⟩
  case round =>
    clear H'
    try clear c1
    obtain ⟨x3_1, x4_1, rfl, rfl, HA, HK1, HB⟩ := hrel
    cases gk with
    | zero => exact absurd HA.out (by simp [pascalineref29_Text.l0])
    | succ k1 =>
      have H := HA.out
      clear HA
      simp only [pascalineref29_Text.l0] at H
      by_cases c2 : x4_1 < (l0.length : Int)
      · rw [if_pos c2] at H
        have c2b0 : decide (x4_1 < (l0.length : Int)) = true := decide_eq_true c2
        clear c2
        by_cases c3 : 0 ≤ x4_1
        · rw [if_pos c3] at H
          have c3b0 : decide (0 ≤ x4_1) = true := decide_eq_true c3
          clear c3
          replace H := Option.bind_eq_some_iff.mp H
          obtain ⟨t163, A40, H⟩ := H
          replace H : (if x3_1.size + t163.size ≤ 9223372036854775807 then (if (x3_1 ++ t163).size + 1 ≤ 9223372036854775807 then (pascalineref29_Text.l0 k1 l0 ((x3_1 ++ t163) ++ (⟨#[10]⟩ : ByteArray)) (wrap64 (x4_1 + 1))) else (none)) else (none)) = some r := H
          have A4 := Aside0.mk A40
          clear A40
          by_cases c5 : x3_1.size + t163.size ≤ 9223372036854775807
          · rw [if_pos c5] at H
            have c5b0 := eq_true c5
            have c5b1 : decide (x3_1.size + t163.size ≤ 9223372036854775807) = true := decide_eq_true c5
            try have c5b2 : (9223372036854775807 < x3_1.size + t163.size) = False := eq_false (Nat.not_lt.2 c5)
            by_cases c6 : (x3_1 ++ t163).size + 1 ≤ 9223372036854775807
            · rw [if_pos c6] at H
              have c6b0 := eq_true c6
              have c6b1 : decide ((x3_1 ++ t163).size + 1 ≤ 9223372036854775807) = true := decide_eq_true c6
              try have c6b2 : (9223372036854775807 < (x3_1 ++ t163).size + 1) = False := eq_false (Nat.not_lt.2 c6)
              have H' := Aside0.mk H
              clear H
              have p162 : 0 ≤ (x4_1 : Int) := of_decide_eq_true (by first | (with_reducible assumption) | assumption)
              have q162 : x4_1 < (l0.length : Int) := of_decide_eq_true (by first | (with_reducible assumption) | assumption)
              obtain ⟨ad162, e162, hx162_0, hx162_1⟩ := at_T27 HR0.out x4_1 p162 q162
              cases e162
              replace hx162_0 := (HB.out.cell (World.block_lt_of_cell? w _ hx162_0)).trans hx162_0
              replace hx162_1 := (HB.out.cell (World.block_lt_of_cell? w _ hx162_1)).trans hx162_1
              replace p162 := eq_true p162
              replace q162 := eq_true q162
              go_wp2_with (first | ((with_reducible refine gate_callee (f := 12) rfl ?_); refine goesL_ (some 16) rfl rfl Try.func12 (by kernel_rfl) rfl #[.agg #[.int .i64 ((rd_T27 l0 x4_1).f0), .int .i32 ((rd_T27 l0 x4_1).f1)]] rfl (by (try simp only [List.map_toArray, List.map_cons, List.map_nil]); first | done | rfl | (simp only [List.length_drop, List.length_take]; rfl)) ?_; (with_reducible refine (pascalineref29_Line.calls ((rd_T27 l0 x4_1).f0) ((rd_T27 l0 x4_1).f1) t163 _ A4.out).mono ?_); rintro e w7 ⟨rfl, hb⟩; refine ⟨_, rfl, ?_⟩; have n0_ := Aside0.mk (below_step (by repeat (first | (with_reducible first | exact HB.out | apply below_alloc | apply pw_below_drewN | apply below_drew1) | exact HB.out)) hb); clear HB; have HB := n0_; clear n0_; (try clear hb); (try clear hb2); (try clear hk); (try clear hi)))
              go_roundg k1
              case measure => have := HK1.out; omega
              case rel => exact ⟨((x3_1 ++ t163) ++ (⟨#[10]⟩ : ByteArray)), (wrap64 (x4_1 + 1)), (by first | rfl | (simp; done) | (simp [*]; done)), (by first | rfl | (simp; done) | (simp [*]; done)), H', ⟨by have := HK1.out; omega⟩, ⟨by repeat (first | (with_reducible first | exact HB.out | apply below_alloc | apply pw_below_drewN | apply below_drew1) | exact HB.out)⟩⟩
            · rw [if_neg c6] at H
              exact absurd H (by simp)
          · rw [if_neg c5] at H
            exact absurd H (by simp)
        · rw [if_neg c3] at H
          exact absurd H (by simp)
      · rw [if_neg c2] at H
        have c2b0 : decide (x4_1 < (l0.length : Int)) = false := decide_eq_false c2
        clear c2
        obtain rfl := Option.some.inj H
        go_wp2
        go_ret
        exact ⟨by first | rfl | (simp [errW_none, errW_some] <;> rfl) | (simp [*, errW_none, errW_some] <;> rfl), by repeat (first | (with_reducible first | exact HB.out | apply below_alloc | apply pw_below_drewN | apply below_drew1) | exact HB.out)⟩

-- NOT PRINTED: function 39 (abi_NoEscape)

-- NOT PRINTED: function 37 (strings_Builder_copyCheck)

-- NOT PRINTED: function 29 (strings_Builder_WriteByte)

-- NOT PRINTED: function 30 (strings_Builder_String)

-- NOT PRINTED: function 17 (trace_Written)

end Go.Proofs.Ytajcopcmahidhaa.P

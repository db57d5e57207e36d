-- Written by a program of this session (wip/tools/hp.py) out of the translation.
import Derived.Test.YtajcopcmahidhaaPx0
import Derived.Test.YtajcopcmahidhaaPx2
import Derived.Test.YtajcopcmahidhaaPx19
namespace Go.Proofs.Ytajcopcmahidhaa.P
open Go.RowKit Go.Proofs.YtajcopcmahidhaaW.PrintWords Go.Proofs.YtajcopcmahidhaaW.PrintLast Go.Proofs.YtajcopcmahidhaaW.PrintMore
attribute [local go_sem] max2_int min2_int max_two min_two max_three min_three max_four min_four   -- for this text's walks alone
set_option linter.unusedVariables false
set_option linter.unusedSimpArgs false

/-! ### trace_Written: function 17 -/
/-- What is written of an event: a number's text and a blank, a sign, or nothing. -/
def tw_one (tx : Int → ByteArray) (x : S27) : List UInt8 :=
  if x.f0 = 0 then (tx x.f1).data.toList ++ [32] else if x.f0 = 1 then (if (32 ≤ x.f1 ∧ x.f1 ≤ 126) ∨ x.f1 = 10 then [UInt8.ofNat x.f1.toNat] else [63]) else []
def tw_all (tx : Int → ByteArray) (l : List S27) : List UInt8 := l.flatMap (tw_one tx)
theorem tw_all_snoc (tx : Int → ByteArray) (l : List S27) (x : S27) : tw_all tx (l ++ [x]) = tw_all tx l ++ tw_one tx x := by
  unfold tw_all; simp
theorem tw_one_len (tx : Int → ByteArray) (x : S27) (h : (tx x.f1).size ≤ 1000) : (tw_one tx x).length ≤ 1001 := by
  unfold tw_one
  split
  · rw [List.length_append, data_length, List.length_singleton]; omega
  · split
    · split <;> simp
    · simp
theorem tw_step {w w1 : World} {tx : Int → ByteArray} {l : List S27} {i : Nat} {z : S27} {bs : List Value} (ht : l.take (i + 1) = l.take i ++ [z]) (hsz : (tx z.f1).size ≤ 1000) (hl : (tw_all tx (l.take i)).length ≤ 1001 * i)
    (hb : Lib.byteCells (tw_all tx (l.take i)) ++ Lib.byteCells (tw_one tx z) = bs) (hu : Lib.IsBuilderF 51 5 w.heap.size w.heap.size bs w1) (hw : Below w.heap.size w w1) :
    Lib.IsBuilderF 51 5 w.heap.size w.heap.size (Lib.byteCells (tw_all tx (l.take (i + 1)))) w1 ∧ Below w.heap.size w w1 ∧ (tw_all tx (l.take (i + 1))).length ≤ 1001 * (i + 1) := by
  refine ⟨?_, hw, ?_⟩
  · rw [ht, tw_all_snoc, Lib.byteCells_append, hb]; exact hu
  · rw [ht, tw_all_snoc, List.length_append]; have := tw_one_len tx z hsz; omega
set_option maxHeartbeats 8000000 in
set_option maxRecDepth 100000 in
theorem trace_Written.calls (tx : Int → ByteArray) (A : Option Addr) (c : Nat) (l : List S27) (w : World) (hl : l.length ≤ 1000) (htx : ∀ x ∈ l, (-2147483648 ≤ x.f1 ∧ x.f1 ≤ 2147483647) ∧ word_Text.f x.f1 = some (tx x.f1) ∧ (tx x.f1).size ≤ 1000) (hC : Kd.C k27 w A l.length l) :
    Calls Try.prog 17 #[.slice A l.length c] w fun e w' => e = .returned (.string ⟨(tw_all tx l).toArray⟩) ∧ Below w.heap.size w w' := by
  have HC := Aside0.mk hC
  have HTX := Aside0.mk htx
  clear hC htx
  go_enter Try.func17, Try.ntmps17
  go_wp2
  go_loopg [9] (l.length + 1) (fun kx v9 wr => ∃ i : Nat, v9 = .int .i64 i ∧ Aside0 (i + kx = l.length + 1 ∧ i ≤ l.length) ∧ Aside0 (Lib.IsBuilderF 51 5 w.heap.size w.heap.size (Lib.byteCells (tw_all tx (l.take i))) wr ∧ Below w.heap.size w wr ∧ (tw_all tx (l.take i)).length ≤ 1001 * i))
  case atStart => exact ⟨0, rfl, ⟨⟨by omega, by omega⟩⟩, ⟨⟨Lib.IsBuilderF.of (Lib.fresh_isBuilder 51 5 w), below_alloc (Below.refl _ _) _, by simp [tw_all]⟩⟩⟩
  case round =>
    obtain ⟨i, rfl, I, HW⟩ := hrel
    by_cases hi : i < l.length
    · obtain ⟨ad, e, hx0, hx1⟩ := at_T27 HC.out (i : Int) (by omega) (by omega)
      cases e
      rw [Int.toNat_natCast] at hx0 hx1
      have er : rd_T27 l (i : Int) = l[i] := by unfold rd_T27; rw [Int.toNat_natCast]; simp [List.getD_eq_getElem?_getD, hi]
      have htk : l.take (i + 1) = l.take i ++ [rd_T27 l (i : Int)] := by rw [er, List.take_succ_eq_append_getElem hi]
      have hlx := HTX.out (rd_T27 l (i : Int)) (by rw [er]; exact List.getElem_mem _)
      generalize hz : rd_T27 l (i : Int) = z at hx0 hx1 htk hlx
      obtain ⟨x, y⟩ := z
      have HT := Aside0.mk htk
      have HX := Aside0.mk hlx
      clear er hz htk hlx
      replace hx0 := (HW.out.2.1.cell (World.block_lt_of_cell? w _ hx0)).trans hx0
      replace hx1 := (HW.out.2.1.cell (World.block_lt_of_cell? w _ hx1)).trans hx1
      dsimp only at hx0 hx1
      have hi1 : (i : Int) < (l.length : Int) := by omega
      have hi0 : (0 : Int) ≤ (i : Int) := by omega
      have hi2 : (i : Int) ≤ 1000 := by omega
      have hy0 : -2147483648 ≤ y := HX.out.1.1
      have hy1 : y ≤ 2147483647 := HX.out.1.2
      have hszf : (9223372036854775807 < (tx y).size + 1) = False := eq_false (by have h9 : (tx y).size ≤ 1000 := HX.out.2.2; omega)
      have HNB := Aside0.mk (show ∀ W, Below wr.heap.size wr W → Lib.IsBuilderF 51 5 w.heap.size w.heap.size (Lib.byteCells (tw_all tx (l.take i))) W ∧ Below w.heap.size w W from fun W hW => ⟨sb_below HW.out.1 hW, below_step HW.out.2.1 hW⟩)
      have HLB := Aside0.mk (show (Lib.byteCells (tw_all tx (l.take i))).length ≤ 1001000 from by rw [Lib.byteCells_length]; have := HW.out.2.2; omega)
      have fin : ∀ W bs, Lib.byteCells (tw_all tx (l.take i)) ++ Lib.byteCells (tw_one tx ⟨x, y⟩) = bs → Lib.IsBuilderF 51 5 w.heap.size w.heap.size bs W → Below w.heap.size w W → _ := fun W bs hb hu hw => tw_step (w := w) (w1 := W) HT.out HX.out.2.2 HW.out.2.2 hb hu hw
      have HFIN := Aside0.mk fin
      clear fin
      by_cases c0 : x = 0
      · have b0 : (x == 0) = true := beq_iff_eq.mpr c0
        have h1 : Lib.byteCells (tw_all tx (l.take i)) ++ Lib.byteCells (tw_one tx ⟨x, y⟩) = Lib.byteCells (tw_all tx (l.take i)) ++ Lib.strCells (tx y ++ ⟨#[32]⟩) := by
          unfold tw_one
          rw [if_pos c0, tx_cells, ByteArray.data_append, Array.toList_append]
        have H1 := Aside0.mk h1
        clear h1 c0
        go_wp2_with (first
          | (go_at_call 26; ((with_reducible refine (word_Text.calls y (tx y) _ HX.out.2.1).mono ?_)); rintro e w3 ⟨rfl, hb⟩; have HB3 := Aside0.mk (show Below wr.heap.size wr w3 from below_step (by repeat (first | exact Below.refl _ _ | apply below_alloc | refine below_set ?_ (by simp))) hb); clear hb)
          | (go_at_call 28; ((with_reducible refine (sb_str w.heap.size w.heap.size _ (tx y ++ ⟨#[32]⟩) _ (HNB.out _ HB3.out).1 (by have := HLB.out; have h9 : (tx y).size ≤ 1000 := HX.out.2.2; rw [ByteArray.size_append, show (⟨#[32]⟩ : ByteArray).size = 1 from rfl]; omega) (HNB.out _ HB3.out).2.size).mono ?_)); rintro e w4 ⟨rfl, h1, hb, _⟩; have HB4 := Aside0.mk ((HNB.out _ HB3.out).2.trans hb); have HU4 := Aside0.mk (show Lib.IsBuilderF 51 5 w.heap.size w.heap.size _ w4 from .inr h1); clear hb h1))
        go_roundg (l.length - i)
        case measure => have := I.out; omega
        case rel => exact ⟨i + 1, by first | rfl | (simp; done), ⟨by have := I.out; omega⟩, ⟨HFIN.out _ _ H1.out HU4.out HB4.out⟩⟩
      · have b0 : (x == 0) = false := beq_eq_false_iff_ne.mpr c0
        by_cases c1 : x = 1
        · have b1 : (x == 1) = true := beq_iff_eq.mpr c1
          by_cases c2 : 32 ≤ y ∧ y ≤ 126
          · have h1 : Lib.byteCells (tw_all tx (l.take i)) ++ Lib.byteCells (tw_one tx ⟨x, y⟩) = Lib.byteCells (tw_all tx (l.take i)) ++ [.int .u8 y] := by
              unfold tw_one
              rw [if_neg c0, if_pos c1, if_pos (.inl c2)]
              show _ ++ [Value.int .u8 ((UInt8.ofNat y.toNat).toNat : Int)] = _
              rw [UInt8.toNat_ofNat', Nat.mod_eq_of_lt (by omega), Int.toNat_of_nonneg (by omega)]
            have H1 := Aside0.mk h1
            have d1 : decide (32 ≤ y) = true := decide_eq_true c2.1
            have d2 : decide (y ≤ 126) = true := decide_eq_true c2.2
            have hw8 : IntKind.u8.wrap y = y := by rw [IntKind.wrap_u8]; omega
            have hy2 : 0 ≤ y := by omega
            have hy3 : y ≤ 126 := c2.2
            have hy4 : y % 256 = y := by omega
            clear h1 c0 c1 c2
            go_wp2_with (go_at_call 29; ((with_reducible refine (sb_byte w.heap.size w.heap.size _ y _ (HNB.out _ (by repeat (first | exact Below.refl _ _ | apply below_alloc | refine below_set ?_ (by simp)))).1 (by have := HLB.out; omega) (HNB.out _ (by repeat (first | exact Below.refl _ _ | apply below_alloc | refine below_set ?_ (by simp)))).2.size).mono ?_); rintro e w4 ⟨rfl, h1, hb, _⟩; have HB4 := Aside0.mk ((HNB.out _ (by repeat (first | exact Below.refl _ _ | apply below_alloc | refine below_set ?_ (by simp)))).2.trans hb); have HU4 := Aside0.mk (show Lib.IsBuilderF 51 5 w.heap.size w.heap.size _ w4 from .inr h1); clear hb h1))
            go_roundg (l.length - i)
            case measure => have := I.out; omega
            case rel => exact ⟨i + 1, by first | rfl | (simp; done), ⟨by have := I.out; omega⟩, ⟨HFIN.out _ _ H1.out HU4.out HB4.out⟩⟩
          · by_cases c3 : y = 10
            · have h1 : Lib.byteCells (tw_all tx (l.take i)) ++ Lib.byteCells (tw_one tx ⟨x, y⟩) = Lib.byteCells (tw_all tx (l.take i)) ++ [.int .u8 10] := by
                unfold tw_one
                rw [if_neg c0, if_pos c1, if_pos (.inr c3)]
                dsimp only
                rw [c3]
                rfl
              have H1 := Aside0.mk h1
              have d1 : decide (32 ≤ y) = false := decide_eq_false (by omega)
              have d3 : (y == 10) = true := beq_iff_eq.mpr c3
              have hw8 : IntKind.u8.wrap y = 10 := by rw [c3]; decide
              clear h1 c0 c1 c2
              have hy4 : y % 256 = 10 := by omega
              clear c3
              go_wp2_with (go_at_call 29; ((with_reducible refine (sb_byte w.heap.size w.heap.size _ 10 _ (HNB.out _ (by repeat (first | exact Below.refl _ _ | apply below_alloc | refine below_set ?_ (by simp)))).1 (by have := HLB.out; omega) (HNB.out _ (by repeat (first | exact Below.refl _ _ | apply below_alloc | refine below_set ?_ (by simp)))).2.size).mono ?_); rintro e w4 ⟨rfl, h1, hb, _⟩; have HB4 := Aside0.mk ((HNB.out _ (by repeat (first | exact Below.refl _ _ | apply below_alloc | refine below_set ?_ (by simp)))).2.trans hb); have HU4 := Aside0.mk (show Lib.IsBuilderF 51 5 w.heap.size w.heap.size _ w4 from .inr h1); clear hb h1))
              go_roundg (l.length - i)
              case measure => have := I.out; omega
              case rel => exact ⟨i + 1, by first | rfl | (simp; done), ⟨by have := I.out; omega⟩, ⟨HFIN.out _ _ H1.out HU4.out HB4.out⟩⟩
            · have h1 : Lib.byteCells (tw_all tx (l.take i)) ++ Lib.byteCells (tw_one tx ⟨x, y⟩) = Lib.byteCells (tw_all tx (l.take i)) ++ [.int .u8 63] := by
                unfold tw_one
                rw [if_neg c0, if_pos c1, if_neg (by rintro (h | h); exact c2 h; exact c3 h)]
                rfl
              have H1 := Aside0.mk h1
              have d3 : (y == 10) = false := beq_eq_false_iff_ne.mpr c3
              by_cases c4 : 32 ≤ y
              · have d1 : decide (32 ≤ y) = true := decide_eq_true c4
                have d2 : decide (y ≤ 126) = false := decide_eq_false (by omega)
                clear h1 c0 c1 c2 c3 c4
                go_wp2_with (go_at_call 29; ((with_reducible refine (sb_byte w.heap.size w.heap.size _ 63 _ (HNB.out _ (by repeat (first | exact Below.refl _ _ | apply below_alloc | refine below_set ?_ (by simp)))).1 (by have := HLB.out; omega) (HNB.out _ (by repeat (first | exact Below.refl _ _ | apply below_alloc | refine below_set ?_ (by simp)))).2.size).mono ?_); rintro e w4 ⟨rfl, h1, hb, _⟩; have HB4 := Aside0.mk ((HNB.out _ (by repeat (first | exact Below.refl _ _ | apply below_alloc | refine below_set ?_ (by simp)))).2.trans hb); have HU4 := Aside0.mk (show Lib.IsBuilderF 51 5 w.heap.size w.heap.size _ w4 from .inr h1); clear hb h1))
                go_roundg (l.length - i)
                case measure => have := I.out; omega
                case rel => exact ⟨i + 1, by first | rfl | (simp; done), ⟨by have := I.out; omega⟩, ⟨HFIN.out _ _ H1.out HU4.out HB4.out⟩⟩
              · have d1 : decide (32 ≤ y) = false := decide_eq_false c4
                clear h1 c0 c1 c2 c3 c4
                go_wp2_with (go_at_call 29; ((with_reducible refine (sb_byte w.heap.size w.heap.size _ 63 _ (HNB.out _ (by repeat (first | exact Below.refl _ _ | apply below_alloc | refine below_set ?_ (by simp)))).1 (by have := HLB.out; omega) (HNB.out _ (by repeat (first | exact Below.refl _ _ | apply below_alloc | refine below_set ?_ (by simp)))).2.size).mono ?_); rintro e w4 ⟨rfl, h1, hb, _⟩; have HB4 := Aside0.mk ((HNB.out _ (by repeat (first | exact Below.refl _ _ | apply below_alloc | refine below_set ?_ (by simp)))).2.trans hb); have HU4 := Aside0.mk (show Lib.IsBuilderF 51 5 w.heap.size w.heap.size _ w4 from .inr h1); clear hb h1))
                go_roundg (l.length - i)
                case measure => have := I.out; omega
                case rel => exact ⟨i + 1, by first | rfl | (simp; done), ⟨by have := I.out; omega⟩, ⟨HFIN.out _ _ H1.out HU4.out HB4.out⟩⟩
        · have b1 : (x == 1) = false := beq_eq_false_iff_ne.mpr c1
          have h1 : Lib.byteCells (tw_all tx (l.take i)) ++ Lib.byteCells (tw_one tx ⟨x, y⟩) = Lib.byteCells (tw_all tx (l.take i)) := by
            unfold tw_one
            rw [if_neg c0, if_neg c1]
            simp [Lib.byteCells]
          have H1 := Aside0.mk h1
          clear h1 c0 c1
          go_wp2
          go_roundg (l.length - i)
          case measure => have := I.out; omega
          case rel => exact ⟨i + 1, by first | rfl | (simp; done), ⟨by have := I.out; omega⟩, ⟨HFIN.out _ _ H1.out (HNB.out _ (by repeat (first | exact Below.refl _ _ | apply below_alloc | refine below_set ?_ (by simp)))).1 (HNB.out _ (by repeat (first | exact Below.refl _ _ | apply below_alloc | refine below_set ?_ (by simp)))).2⟩⟩
    · have hi1 : decide ((i : Int) < (l.length : Int)) = false := decide_eq_false (by omega)
      have HI := Aside0.mk (show i = l.length by have := I.out; omega)
      go_wp2_with (go_at_call 30; ((with_reducible refine (Go.Proofs.Ytajcopcmahidhaa.C.sh_Builder_String_any_k w.heap.size w.heap.size _ _ HW.out.1 HW.out.2.1.size).mono ?_)); rintro e w4 ⟨rfl, _, hb, _⟩; have HB4 := Aside0.mk (HW.out.2.1.trans hb); clear hb)
      go_ret
      exact ⟨by rw [HI.out, List.take_length]; rfl, HB4.out⟩

end Go.Proofs.Ytajcopcmahidhaa.P

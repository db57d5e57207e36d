-- Written by a program of this session (wip/tools/hp.py) out of the translation.
import Derived.Test.YtmebogkhdbbbbaaPx0
import Derived.Test.YtmebogkhdbbbbaaPx1
import Derived.Test.YtmebogkhdbbbbaaPx2
import Derived.Test.YtmebogkhdbbbbaaPx11
import Derived.Test.YtmebogkhdbbbbaaPx12
import Derived.Test.YtmebogkhdbbbbaaPx13
import Derived.Test.YtmebogkhdbbbbaaPx15
import Derived.Test.YtmebogkhdbbbbaaPx16
import Derived.Test.YtmebogkhdbbbbaaPx17
import Derived.Test.YtmebogkhdbbbbaaPx18
import Derived.Test.YtmebogkhdbbbbaaPx19
import Derived.Test.YtmebogkhdbbbbaaPx21
namespace Go.Proofs.Ytmebogkhdbbbbaa.P
open Go.RowKit Go.Proofs.YtmebogkhdbbbbaaW.PrintWords Go.Proofs.YtmebogkhdbbbbaaW.PrintLast Go.Proofs.YtmebogkhdbbbbaaW.PrintMore
attribute [local go_sem] max2_int min2_int max_two min_two max_three min_three max_four min_four   -- for this text's walks alone
set_option linter.unusedVariables false
set_option linter.unusedSimpArgs false

/-! ### pascalinelaw31_ReportPrograms: function 4 -/
namespace RpTx
open Go Go.RowKit Go.Proofs.Ytmebogkhdbbbbaa.C

theorem u64_wrap (x : Int) : IntKind.u64.wrap x = x % 18446744073709551616 := by simp [IntKind.wrap, IntKind.signed, IntKind.bits]
theorem word_text_eq (n : Int) (h : -9223372036854775808 ≤ n ∧ n ≤ 9223372036854775807) : word_Text.f n = some (strOfNums (textOf n)) := by
  unfold word_Text.f word_digits.f textOf
  by_cases h0 : n < 0
  · have e : IntKind.u64.wrap (wrap64 (-n)) = -n := by rw [u64_wrap]; unfold wrap64; omega
    rw [if_pos h0, e, if_pos (.inl rfl), if_pos (by omega), if_pos h0]
    simp only [Option.bind_some]
    have hl := digs_length 10 65 (-n) 1
    rw [show min 64 (max 1 1 : Int).toNat = 1 by decide, if_pos (by rw [strOfNums_size]; omega), strOfNums_cons]
    rfl
  · have e : IntKind.u64.wrap n = n := by rw [u64_wrap]; omega
    rw [if_neg h0, e, if_pos (.inl rfl), if_pos (by omega), if_neg h0]
    rfl
theorem ref_text_eq (n : Int) (h : -9223372036854775808 ≤ n ∧ n ≤ 9223372036854775807) : pascalineref01_Text.f n = some (strOfNums (textOf n)) := by
  unfold pascalineref01_Text.f; rw [if_pos (by omega)]


theorem word_hex_eq (w : Int) (h : 0 ≤ w ∧ w < 4294967296) : word_Hex.f w = some (strOfNums (hexOf w)) := by
  unfold word_Hex.f word_digits.f hexOf
  have e : IntKind.u64.wrap w = w := by rw [u64_wrap]; omega
  rw [e, if_pos (.inr rfl), if_pos (by omega)]
  rfl
theorem hex_sign (d : Nat) (h : d < 16) : (⟨#[48, 49, 50, 51, 52, 53, 54, 55, 56, 57, 97, 98, 99, 100, 101, 102]⟩ : ByteArray).extract d (d + 1) = strOfNums [dg (d : Int)] := by
  have : ∀ d : Fin 16, (⟨#[48, 49, 50, 51, 52, 53, 54, 55, 56, 57, 97, 98, 99, 100, 101, 102]⟩ : ByteArray).extract d.1 (d.1 + 1) = strOfNums [dg (d.1 : Int)] := by decide +kernel
  exact this ⟨d, h⟩
theorem hex_step (k : Nat) (x : Int) (ds : List Int) (i : Int) (hi : 0 ≤ i ∧ i < 8) (hx : 0 ≤ x ∧ x < 4294967296) (hd : ds.length < 100) :
    pascalineref01_Hex.l0 (k + 1) x (strOfNums ds) i = pascalineref01_Hex.l0 k (x / 16) (strOfNums (dg (x % 16) :: ds)) (i + 1) := by
  simp only [pascalineref01_Hex.l0]
  rw [tmod_pos _ _ hx.1, tdiv_pos _ _ hx.1]
  obtain ⟨d, hd1⟩ : ∃ d : Nat, x % 16 = (d : Int) := ⟨(x % 16).toNat, by omega⟩
  have e1 : ((x % 16 + 1) % 4294967296).toNat = d + 1 := by omega
  have e2 : (x % 16).toNat = d := by omega
  rw [e1, e2, hex_sign d (by omega)]
  rw [if_pos hi.2, if_pos (by omega), if_pos (by omega), if_pos (by omega), if_pos (by rw [strOfNums_size, strOfNums_size]; simp; omega)]
  rw [wrap64_in (by omega), show x / 16 % 4294967296 = x / 16 by omega, strOfNums_cons (dg (x % 16)) ds, hd1]
theorem ref_hex_eq (k : Nat) (w : Int) (h : 0 ≤ w ∧ w < 4294967296) : pascalineref01_Hex.f (k + 9) w = some (strOfNums (hexOf w)) := by
  unfold pascalineref01_Hex.f
  rw [show (⟨#[]⟩ : ByteArray) = strOfNums [] from rfl]
  rw [hex_step _ _ _ _ (by omega) (by omega) (by simp), hex_step _ _ _ _ (by omega) (by omega) (by simp), hex_step _ _ _ _ (by omega) (by omega) (by simp), hex_step _ _ _ _ (by omega) (by omega) (by simp), hex_step _ _ _ _ (by omega) (by omega) (by simp), hex_step _ _ _ _ (by omega) (by omega) (by simp), hex_step _ _ _ _ (by omega) (by omega) (by simp), hex_step _ _ _ _ (by omega) (by omega) (by simp)]
  simp only [pascalineref01_Hex.l0]
  rw [if_neg (by omega), hexOf_eq w h]
  rw [show w / 16 / 16 = w / 256 by omega, show w / 256 / 16 = w / 4096 by omega, show w / 4096 / 16 = w / 65536 by omega, show w / 65536 / 16 = w / 1048576 by omega, show w / 1048576 / 16 = w / 16777216 by omega, show w / 16777216 / 16 = w / 268435456 by omega]

/-! ### Reading a number -/

end RpTx
theorem rt_T : RpT (fun n => strOfNums (C.textOf n)) := fun n h => ⟨RpTx.word_text_eq n h, RpTx.ref_text_eq n h, by
  show (strOfNums (C.textOf n)).size ≤ 100
  rw [C.strOfNums_size]
  unfold C.textOf
  split
  · have := C.digs_length 10 65 (-n) 1
    rw [List.length_cons]; omega
  · have := C.digs_length 10 65 n 1
    omega⟩
theorem rt_H : RuH (fun n => strOfNums (C.hexOf n)) := fun n h => ⟨RpTx.word_hex_eq n (by omega), fun k => RpTx.ref_hex_eq k n (by omega), by
  show (strOfNums (C.hexOf n)).size ≤ 100
  rw [C.strOfNums_size]
  unfold C.hexOf
  have := C.digs_length 16 65 n 8
  omega⟩
theorem ru_ref0 {T : Int → ByteArray} (hT : RpT T) (l : List S77) (hl : l.length ≤ 60) (hx : ∀ x ∈ l, RuOkX x) (h0 : ByteArray) (hz : h0.size ≤ 1050000) (d : Nat) : ∀ (k i : Nat), i + d = l.length → d < k → pascalineref31_Uses.l0 k l (h0 ++ ru_exp T l i) (i : Int) = some (h0 ++ ru_exp T l l.length) := by
  induction d with
  | zero =>
    intro k i hi hk
    obtain ⟨k, rfl⟩ : ∃ m, k = m + 1 := ⟨k - 1, by omega⟩
    simp only [pascalineref31_Uses.l0]
    rw [if_neg (by omega), show i = l.length by omega]
  | succ d ih =>
    intro k i hi hk
    obtain ⟨k, rfl⟩ : ∃ m, k = m + 1 := ⟨k - 1, by omega⟩
    have ih' := ih k (i + 1) (by omega) (by omega)
    have hok : RuOkX (rd_T77 l (i : Int)) := ru_rdx hx (by omega)
    have hes := ru_exp_size hT hx i (by omega)
    have hlast : ru_exp T l (i + 1) = ru_exp T l i ++ ru_line T (rd_T77 l (i : Int)) := rfl
    rw [hlast] at ih'
    have hs : (h0 ++ ru_exp T l i).size ≤ 70000000 := by rw [ByteArray.size_append]; omega
    obtain ⟨e, he⟩ : ∃ e, ru_exp T l i = e := ⟨_, rfl⟩
    rw [he] at hs ih' ⊢
    obtain ⟨x, hxe⟩ : ∃ x, rd_T77 l (i : Int) = x := ⟨_, rfl⟩
    simp only [pascalineref31_Uses.l0]
    rw [hxe] at hok ih' ⊢
    obtain ⟨p0, p1⟩ := hok
    have hk2 := ru_kind_size x.f1
    have ht := hT (x.f4.length : Int) (by omega)
    have l2 : (⟨#[32, 32]⟩ : ByteArray).size = 2 := rfl
    have l1 : (⟨#[32]⟩ : ByteArray).size = 1 := rfl
    have tz := ht.2.2
    rw [if_pos (by omega), if_pos (by omega), if_pos (by omega), (ru_kind_eq x.f1).2, Option.bind_some,
      if_pos (by rw [ByteArray.size_append, l2]; omega), if_pos (by rw [ByteArray.size_append, ByteArray.size_append, l2]; omega), if_pos (by simp only [ByteArray.size_append, l2, l1] at hs ⊢; omega), if_pos (by simp only [ByteArray.size_append, l2, l1] at hs ⊢; omega),
      ht.2.1, Option.bind_some, if_pos (by simp only [ByteArray.size_append, l2, l1] at hs ⊢; omega), if_pos (by simp only [ByteArray.size_append, l2, l1] at hs ⊢; omega),
      show wrap64 ((i : Int) + 1) = ((i + 1 : Nat) : Int) by unfold wrap64; omega]
    rw [← ih']
    unfold ru_line
    simp only [ByteArray.append_assoc]
theorem ru_ref {T H : Int → ByteArray} (hT : RpT T) (hH : RuH H) {f : S46} (h : RuOk f) : pascalineref31_Uses.f 1000 f.f0 f.f1 f.f3 = some (ru_file T H f) := by
  obtain ⟨h0, h1, h2, h3⟩ := h
  have hh := hH f.f1 h1
  have hz := hh.2.2
  have h7 : (⟨#[109, 111, 100, 117, 108, 101, 32]⟩ : ByteArray).size = 7 := rfl
  have l1 : (⟨#[32]⟩ : ByteArray).size = 1 := rfl
  unfold pascalineref31_Uses.f
  rw [if_pos (by omega), if_pos (by rw [ByteArray.size_append, h7]; omega), hh.2.1 991, Option.bind_some, if_pos (by simp only [ByteArray.size_append, h7, l1]; omega), if_pos (by simp only [ByteArray.size_append, h7, l1]; omega)]
  have := ru_ref0 hT f.f3 h2 h3 (ru_head H f.f0 f.f1) (ru_head_size hH h0 h1) f.f3.length 1000 0 (by omega) (by omega)
  rw [show ru_exp T f.f3 0 = (⟨#[]⟩ : ByteArray) from rfl, show ru_head H f.f0 f.f1 ++ (⟨#[]⟩ : ByteArray) = ru_head H f.f0 f.f1 from ByteArray.append_empty] at this
  exact this
theorem rl_field (b0 b1 b2 b3 b4 b5 b6 b7 b8 b9 b10 b11 : Value) (W : World) : Sem.run Try.prog (Instr.field 59 (.agg #[b0, b1, b2, b3, b4, b5, b6, b7, b8, b9, b10, b11]) 0) W = .ok (.agg #[b0, b1, b2, b3, b4, b5, b6, b7, b8, b9]) W := by kernel_rfl
theorem rl_awake : pascalinelaw31_awake.f 7000 = some true := by kernel_rfl
/-- What is known of the law's arguments, where their bulk is small. -/
def RpSmall (a0 a1 a2 a3 a4 : Int) (ms : List S49) (ts : List Int) (fs : List S46) : Prop :=
  ((0 ≤ a0 ∧ a0 ≤ 4294967295) ∧ (0 ≤ a1 ∧ a1 ≤ 4294967295) ∧ (0 ≤ a2 ∧ a2 ≤ 4294967295) ∧ (0 ≤ a3 ∧ a3 ≤ 4294967295) ∧ (0 ≤ a4 ∧ a4 ≤ 4294967295)) ∧
  (∀ m ∈ ms, m.f0.size ≤ 1048576 ∧ (-9223372036854775808 ≤ m.f1 ∧ m.f1 ≤ 9223372036854775807) ∧ (-9223372036854775808 ≤ m.f2 ∧ m.f2 ≤ 9223372036854775807) ∧ (-9223372036854775808 ≤ m.f3 ∧ m.f3 ≤ 9223372036854775807) ∧ (-9223372036854775808 ≤ m.f4 ∧ m.f4 ≤ 9223372036854775807)) ∧
  (∀ n ∈ ts, -9223372036854775808 ≤ n ∧ n ≤ 9223372036854775807) ∧
  (∀ f ∈ fs, f.f0.size ≤ 1048576 ∧ (0 ≤ f.f1 ∧ f.f1 ≤ 4294967295) ∧ ∀ x ∈ f.f3, x.f0.size ≤ 1048576 ∧ x.f4.length ≤ 1048576)
instance (a0 a1 a2 a3 a4 : Int) (ms : List S49) (ts : List Int) (fs : List S46) : Decidable (RpSmall a0 a1 a2 a3 a4 ms ts fs) := by unfold RpSmall; infer_instance
theorem hB_of {w W : World} (h : Below w.heap.size w W) : Below w.heap.size w W := h
theorem ru_all_take {T H : Int → ByteArray} {fs : List S46} : ∀ {k : Nat}, k ≤ fs.length → ru_all T H fs k = ru_all T H (fs.take k) k := by
  have gen : ∀ (n k : Nat), k ≤ n → n ≤ fs.length → ru_all T H fs k = ru_all T H (fs.take n) k := by
    intro n k
    induction k with
    | zero => intro _ _; rfl
    | succ k ih =>
      intro h1 h2
      unfold ru_all
      rw [ih (by omega) h2]
      congr 2
      unfold rd_T46
      rw [Int.toNat_natCast, List.getD_eq_getElem?_getD, List.getD_eq_getElem?_getD, List.getElem?_take, if_pos (by omega)]
  exact fun {k} h => gen k k (Nat.le_refl _) h
set_option maxRecDepth 100000 in
set_option maxHeartbeats 16000000 in
theorem rl_calls {T H : Int → ByteArray} (hT : RpT T) (hH : RuH H) (w : World) (a0 a1 a2 a3 a4 : Int) (A5 : Option Addr) (n5 c5 : Nat) (A6 : Option Addr) (n6 c6 : Nat) (s7 s8 s9 s10 : Int) (AM : Option Addr) (cM : Nat) (ms : List S49) (hM : Kd.C k49 w AM ms.length ms) (AT : Option Addr) (cT : Nat) (ts : List Int) (hTs : Kd.C (Kd.int .i64) w AT ts.length ts) (AF : Option Addr) (cF : Nat) (fs : List S46) (hF : Kd.C k46 w AF fs.length fs) (hsm : RpSmall a0 a1 a2 a3 a4 ms ts fs) (hlen : ms.length ≤ 4611686018427387904 ∧ ts.length ≤ 4611686018427387904 ∧ fs.length ≤ 4611686018427387904) :
    Calls Try.prog 4 #[.agg #[.int .u32 a0, .int .u32 a1, .int .u32 a2, .int .u32 a3, .int .u32 a4, .slice A5 n5 c5, .slice A6 n6 c6, .int .u32 s7, .int .u32 s8, .int .u32 s9, .int .u32 s10, .slice AM ms.length cM], .slice AT ts.length cT, .slice AF fs.length cF] w fun e w' => e = .returned (.bool true) ∧ Below w.heap.size w w' := by
  obtain ⟨hsa, hsm1, hsm2, hsm3⟩ := hsm
  have HM := Aside0.mk hM; have HTT := Aside0.mk hTs; have HF := Aside0.mk hF; have HSA := Aside0.mk hsa; have HSM := Aside0.mk hsm1; have HTS := Aside0.mk hsm2; have HSF := Aside0.mk hsm3; have HLN := Aside0.mk hlen
  clear hM hTs hF hsa hsm1 hsm2 hsm3 hlen
  go_enter Try.func4, Try.ntmps4
  go_upto_region 3 with (first | ((with_reducible refine gate_dst (N := 3) rfl ?_); refine box_event ?hg (N := 3) ?hd (cs := #[.int .u32 a0, .int .u32 a1, .int .u32 a2, .int .u32 a3, .int .u32 a4, .slice A5 n5 c5, .slice A6 n6 c6, .int .u32 s7, .int .u32 s8, .int .u32 s9, .int .u32 s10, .slice AM ms.length cM]) (t := 40) ?hr ?_; (case hd => rfl); (case hg => rfl); (case hr => first | (go_simp; done) | (go_simp; rfl)); intro b3 hgx w1 hbox hb; have HB1 := Aside0.mk hb; have HX1 := Aside0.mk hbox; clear hgx hbox hb) | (go_at_call 6; refine (pascalinelaw31_awake.calls 7000 true _ rl_awake).mono ?_; rintro e w2 ⟨rfl, hb⟩; have HB2 := Aside0.mk (below_step HB1.out hb); have HX2 := Aside0.mk (blk_below HX1.out hb); have c11 := blk_cell HX2.out 11; clear hb))
  obtain ⟨b1, hb1⟩ : ∃ q : Bool, q = (decide (80 < (ms.length : Int)) || (decide (80 < (ts.length : Int)) || decide (20 < (fs.length : Int)))) := ⟨_, rfl⟩
  have Hb1 : Aside0 (b1 = (decide (80 < (ms.length : Int)) || (decide (80 < (ts.length : Int)) || decide (20 < (fs.length : Int))))) := ⟨hb1⟩
  clear hb1
  go_cut [27] (fun s wx => s = .bool b1 ∧ wx = w2)
  case first =>
    by_cases k0 : 80 < (ms.length : Int)
    · have kd0 : decide (80 < (ms.length : Int)) = true := decide_eq_true k0
      have hv : b1 = true := by rw [Hb1.out, kd0, Bool.true_or]
      have HV := Aside0.mk hv
      clear hv
      go_wp2_with fail
      go_meet
      case rel => exact ⟨by rw [HV.out], rfl⟩
    · have kd0 : decide (80 < (ms.length : Int)) = false := decide_eq_false k0
      by_cases k1 : 80 < (ts.length : Int)
      · have kd1 : decide (80 < (ts.length : Int)) = true := decide_eq_true k1
        have hv : b1 = true := by rw [Hb1.out, kd0, Bool.false_or, kd1, Bool.true_or]
        have HV := Aside0.mk hv
        clear hv
        go_wp2_with fail
        go_meet
        case rel => exact ⟨by rw [HV.out], rfl⟩
      · have kd1 : decide (80 < (ts.length : Int)) = false := decide_eq_false k1
        by_cases k2 : 20 < (fs.length : Int)
        · have kd2 : decide (20 < (fs.length : Int)) = true := decide_eq_true k2
          have hv : b1 = true := by rw [Hb1.out, kd0, Bool.false_or, kd1, Bool.false_or, kd2]
          have HV := Aside0.mk hv
          clear hv
          go_wp2_with fail
          go_meet
          case rel => exact ⟨by rw [HV.out], rfl⟩
        · have kd2 : decide (20 < (fs.length : Int)) = false := decide_eq_false k2
          have hv : b1 = false := by rw [Hb1.out, kd0, Bool.false_or, kd1, Bool.false_or, kd2]
          have HV := Aside0.mk hv
          clear hv
          go_wp2_with fail
          go_meet
          case rel => exact ⟨by rw [HV.out], rfl⟩
  case rest =>
    obtain ⟨rfl, hw⟩ := hcut
    replace hw := hw.symm
    first | subst hw | (rw [← hw])
    cases b1
    case true =>
      go_wp2
      go_ret
      exact ⟨rfl, HB2.out⟩
    have HML : Aside0 (ms.length ≤ 80) := ⟨by have := Hb1.out; simp at this; omega⟩
    have HTL : Aside0 (ts.length ≤ 80) := ⟨by have := Hb1.out; simp at this; omega⟩
    have HFL : Aside0 (fs.length ≤ 20) := ⟨by have := Hb1.out; simp at this; omega⟩
    have hmz : (ms.length : Int) ≤ 80 := by have := HML.out; omega
    have htz : (ts.length : Int) ≤ 80 := by have := HTL.out; omega
    have hfz : (fs.length : Int) ≤ 20 := by have := HFL.out; omega
    have cE0 := blk_cell HX2.out 0
    have cE1 := blk_cell HX2.out 1
    have cE2 := blk_cell HX2.out 2
    have cE3 := blk_cell HX2.out 3
    have cE4 := blk_cell HX2.out 4
    go_upto_region 6 with fail
    obtain ⟨b2, hb2⟩ : ∃ q : Bool, q = (decide (a1 < a0) || (decide (a2 < a1) || (decide (a3 < a2) || decide (a4 < a3)))) := ⟨_, rfl⟩
    have Hb2 : Aside0 (b2 = (decide (a1 < a0) || (decide (a2 < a1) || (decide (a3 < a2) || decide (a4 < a3))))) := ⟨hb2⟩
    clear hb2
    go_cut [55] (fun s wx => s = .bool b2 ∧ wx = (w2.alloc (.cells #[.int .u32 a0, .int .u32 a1, .int .u32 a2, .int .u32 a3, .int .u32 a4] 34)))
    case first =>
      by_cases k0 : a1 < a0
      · have kd0 : decide (a1 < a0) = true := decide_eq_true k0
        have hv : b2 = true := by rw [Hb2.out, kd0, Bool.true_or]
        have HV := Aside0.mk hv
        clear hv
        go_wp2_with fail
        go_meet
        case rel => exact ⟨by rw [HV.out], rfl⟩
      · have kd0 : decide (a1 < a0) = false := decide_eq_false k0
        by_cases k1 : a2 < a1
        · have kd1 : decide (a2 < a1) = true := decide_eq_true k1
          have hv : b2 = true := by rw [Hb2.out, kd0, Bool.false_or, kd1, Bool.true_or]
          have HV := Aside0.mk hv
          clear hv
          go_wp2_with fail
          go_meet
          case rel => exact ⟨by rw [HV.out], rfl⟩
        · have kd1 : decide (a2 < a1) = false := decide_eq_false k1
          by_cases k2 : a3 < a2
          · have kd2 : decide (a3 < a2) = true := decide_eq_true k2
            have hv : b2 = true := by rw [Hb2.out, kd0, Bool.false_or, kd1, Bool.false_or, kd2, Bool.true_or]
            have HV := Aside0.mk hv
            clear hv
            go_wp2_with fail
            go_meet
            case rel => exact ⟨by rw [HV.out], rfl⟩
          · have kd2 : decide (a3 < a2) = false := decide_eq_false k2
            by_cases k3 : a4 < a3
            · have kd3 : decide (a4 < a3) = true := decide_eq_true k3
              have hv : b2 = true := by rw [Hb2.out, kd0, Bool.false_or, kd1, Bool.false_or, kd2, Bool.false_or, kd3]
              have HV := Aside0.mk hv
              clear hv
              go_wp2_with fail
              go_meet
              case rel => exact ⟨by rw [HV.out], rfl⟩
            · have kd3 : decide (a4 < a3) = false := decide_eq_false k3
              have hv : b2 = false := by rw [Hb2.out, kd0, Bool.false_or, kd1, Bool.false_or, kd2, Bool.false_or, kd3]
              have HV := Aside0.mk hv
              clear hv
              go_wp2_with fail
              go_meet
              case rel => exact ⟨by rw [HV.out], rfl⟩
    case rest =>
      obtain ⟨rfl, hw⟩ := hcut
      replace hw := hw.symm
      first | subst hw | (rw [← hw])
      cases b2
      case true =>
        go_wp2
        go_ret
        exact ⟨rfl, below_step HB2.out (below_alloc (Below.refl _ _) _)⟩
      have HAA : Aside0 (0 ≤ a0 ∧ a0 ≤ a1 ∧ a1 ≤ a2 ∧ a2 ≤ a3 ∧ a3 ≤ a4 ∧ a4 ≤ 4294967295) := ⟨by have := Hb2.out; have := HSA.out; simp at *; omega⟩
      obtain ⟨W3, hW3⟩ : ∃ W3, (w2.alloc (.cells #[.int .u32 a0, .int .u32 a1, .int .u32 a2, .int .u32 a3, .int .u32 a4] 34)) = W3 := ⟨_, rfl⟩
      have HX3 : Aside0 (W3.heap[b3]? = some (.cells #[.int .u32 a0, .int .u32 a1, .int .u32 a2, .int .u32 a3, .int .u32 a4, .slice A5 n5 c5, .slice A6 n6 c6, .int .u32 s7, .int .u32 s8, .int .u32 s9, .int .u32 s10, .slice AM ms.length cM] 40 (0, 0))) := ⟨by rw [← hW3]; exact blk_below HX2.out (below_alloc (Below.refl _ _) _)⟩
      have HB3 : Aside0 (Below w.heap.size w W3) := ⟨by rw [← hW3]; exact below_step HB2.out (below_alloc (Below.refl _ _) _)⟩
      rw [hW3]
      clear hW3 cE0 cE1 cE2 cE3 cE4 c11
      go_wp2_with fail
      go_loopg [8, 9] (fs.length + 1) (fun kx y8 y9 wr => ∃ k : Nat, y9 = .int .i64 k ∧ y8 = .string (ru_all T H fs k) ∧ Aside0 (k + kx = fs.length + 1 ∧ k ≤ fs.length) ∧ Aside0 (∀ f ∈ fs.take k, RuOk f) ∧ Aside0 (wr.heap[b3]? = some (.cells #[.int .u32 a0, .int .u32 a1, .int .u32 a2, .int .u32 a3, .int .u32 a4, .slice A5 n5 c5, .slice A6 n6 c6, .int .u32 s7, .int .u32 s8, .int .u32 s9, .int .u32 s10, .slice AM ms.length cM] 40 (0, 0))) ∧ Aside0 (Below w.heap.size w wr))
      case atStart => exact ⟨0, rfl, rfl, ⟨⟨by omega, by omega⟩⟩, ⟨fun f hf => by simp at hf⟩, HX3, HB3⟩
      case round =>
        obtain ⟨k, rfl, rfl, HI, HOK, HX, HB⟩ := hrel
        by_cases hk : k < fs.length
        · obtain ⟨ad, A2, d2, A3, d3, e, cx0, cx1, cx2, cx3, _, _, hd3, g3⟩ := at_T46 HF.out (k : Int) (by omega) (by omega)
          cases e
          rw [Int.toNat_natCast] at cx0 cx1 cx2 cx3
          have hsf : (rd_T46 fs (k : Int)).f0.size ≤ 1048576 ∧ (0 ≤ (rd_T46 fs (k : Int)).f1 ∧ (rd_T46 fs (k : Int)).f1 ≤ 4294967295) ∧ ∀ x ∈ (rd_T46 fs (k : Int)).f3, x.f0.size ≤ 1048576 ∧ x.f4.length ≤ 1048576 := ru_rdf HSF.out hk
          have htk : fs.take (k + 1) = fs.take k ++ [rd_T46 fs (k : Int)] := by
            unfold rd_T46
            rw [List.take_add_one, List.getElem?_eq_getElem hk, Int.toNat_natCast, List.getD_eq_getElem?_getD, List.getElem?_eq_getElem hk]
            rfl
          have hnx : ru_all T H fs (k + 1) = ru_all T H fs k ++ ru_file T H (rd_T46 fs (k : Int)) := rfl
          replace cx0 := pw_cell_below HB.out cx0
          replace cx1 := pw_cell_below HB.out cx1
          replace cx3 := pw_cell_below HB.out cx3
          replace g3 := Kd.C_below g3 (hB_of HB.out)
          clear cx2
          obtain ⟨md, hmd⟩ : ∃ md, rd_T46 fs (k : Int) = md := ⟨_, rfl⟩
          rw [hmd] at cx0 cx1 cx3 hsf hnx g3 hd3 htk
          clear hmd
          obtain ⟨f0, f1, f2, f3⟩ := md
          dsimp only at cx0 cx1 cx3 hsf g3 hd3
          have HTK := Aside0.mk htk; have HNX := Aside0.mk hnx; have HH := Aside0.mk hk; have HG3w := Aside0.mk g3; have HD3 := Aside0.mk hd3; have HSX := Aside0.mk hsf
          have k1 : (0 : Int) ≤ (k : Int) := by omega
          have k2 : (k : Int) < (fs.length : Int) := by omega
          have k2b : decide (k < fs.length) = true := decide_eq_true hk
          have k3 : (k : Int) ≤ 20 := by omega
          clear htk hnx hk g3 hd3 hsf
          by_cases h60 : 60 < f3.length
          · have h60z : (60 : Int) < (f3.length : Int) := by omega
            go_wp2
            go_ret
            exact ⟨rfl, HB.out⟩
          · have h60z : ¬ (60 : Int) < (f3.length : Int) := by omega
            have hok : RuOk ⟨f0, f1, f2, f3⟩ := ⟨HSX.out.1, HSX.out.2.1, by show f3.length ≤ 60; omega, HSX.out.2.2⟩
            have HOK2 := Aside0.mk hok
            have hrr := ru_ref hT hH hok
            have hfz2 := ru_file_size hT hH hok
            have hal : (ru_all T H fs k).size ≤ 1300000000 := by
              rw [ru_all_take (by have := HI.out; omega : k ≤ fs.length)]
              have := ru_all_size hT hH HOK.out k (by rw [List.length_take]; have := HI.out; omega)
              have := HI.out
              have := HFL.out
              omega
            obtain ⟨rr, hrr2⟩ : ∃ rr, ru_file T H ⟨f0, f1, f2, f3⟩ = rr := ⟨_, rfl⟩
            obtain ⟨ss, hss⟩ : ∃ ss, ru_all T H fs k = ss := ⟨_, rfl⟩
            rw [hrr2] at hrr hfz2
            rw [hss] at hal ⊢
            have HRR := Aside0.mk hrr; have HR2 := Aside0.mk hrr2; have HS2 := Aside0.mk hss
            have z0 : (9223372036854775807 < ss.size + rr.size) = False := eq_false (by omega)
            have HG3 : Aside0 (Kd.C k77 wr.drew A3 f3.length f3) := ⟨Kd.C_below HG3w.out (below_drew (Below.refl _ _))⟩
            clear h60 hok hrr hfz2 hal hrr2 hss
            go_wp2
            refine wp_region_held_drew (S := fun w' => w'.cell? (ad.add (k * 4)) = some (.string f0) ∧ w'.cell? ⟨(ad.add (k * 4)).block, (ad.add (k * 4)).off + 1, none⟩ = some (.int .u32 f1) ∧ w'.cell? ⟨(ad.add (k * 4)).block, (ad.add (k * 4)).off + 3, none⟩ = some (.slice A3 f3.length d3)) (by kernel_rfl) ⟨cx0, cx1, cx3⟩ (fun hHeld => ?_)
            refine C.tk_take (i := 0) (v := ?_) (by kernel_rfl) (by kernel_rfl) (by kernel_rfl) (fun oi hoi => ?_) rfl
            rotate_left
            simp only [List.getElem?_toArray, List.getElem?_cons_succ, List.getElem?_cons_zero] at hoi
            cases hoi
            refine ⟨fun _ _ _ h => h, Or.inl ⟨by rfl, ?_⟩, by assumption, ?_⟩
            · (intro w hSw; (try dsimp only at hSw); go_simp; all_goals with_reducible rfl)
            try simp only [Act.put, List.setIfInBounds_toArray, List.set_cons_zero, List.set_cons_succ]
            refine C.tk_take (i := 1) (v := ?_) (by kernel_rfl) (by kernel_rfl) (by kernel_rfl) (fun oi hoi => ?_) rfl
            rotate_left
            simp only [List.getElem?_toArray, List.getElem?_cons_succ, List.getElem?_cons_zero] at hoi
            cases hoi
            refine ⟨fun _ _ _ h => h, Or.inl ⟨by rfl, ?_⟩, by assumption, ?_⟩
            · (intro w hSw; (try dsimp only at hSw); go_simp; all_goals with_reducible rfl)
            try simp only [Act.put, List.setIfInBounds_toArray, List.set_cons_zero, List.set_cons_succ]
            refine C.tk_take (i := 2) (v := ?_) (by kernel_rfl) (by kernel_rfl) (by kernel_rfl) (fun oi hoi => ?_) rfl
            rotate_left
            simp only [List.getElem?_toArray, List.getElem?_cons_succ, List.getElem?_cons_zero] at hoi
            cases hoi
            refine ⟨fun _ _ _ h => h, Or.inl ⟨by rfl, ?_⟩, by assumption, ?_⟩
            · (intro w hSw; (try dsimp only at hSw); go_simp; all_goals with_reducible rfl)
            try simp only [Act.put, List.setIfInBounds_toArray, List.set_cons_zero, List.set_cons_succ]
            refine C.tk_take (i := 3) (v := ?_) (by kernel_rfl) (by kernel_rfl) (by kernel_rfl) (fun oi hoi => ?_) rfl
            rotate_left
            simp only [List.getElem?_toArray, List.getElem?_cons_succ, List.getElem?_cons_zero] at hoi
            cases hoi
            refine ⟨fun _ _ _ h => h, Or.inl ⟨by rfl, ?_⟩, by assumption, ?_⟩
            · (intro w hSw; (try dsimp only at hSw); go_simp; all_goals with_reducible rfl)
            try simp only [Act.put, List.setIfInBounds_toArray, List.set_cons_zero, List.set_cons_succ]
            refine C.tk_take (i := 4) (v := ?_) (by kernel_rfl) (by kernel_rfl) (by kernel_rfl) (fun oi hoi => ?_) rfl
            rotate_left
            simp only [List.getElem?_toArray, List.getElem?_cons_succ, List.getElem?_cons_zero] at hoi
            cases hoi
            refine ⟨fun _ _ _ h => h, Or.inl ⟨by rfl, ?_⟩, by assumption, ?_⟩
            · (intro w hSw; (try dsimp only at hSw); go_simp; all_goals with_reducible rfl)
            try simp only [Act.put, List.setIfInBounds_toArray, List.set_cons_zero, List.set_cons_succ]
            refine C.tk_take (i := 5) (v := ?_) (by kernel_rfl) (by kernel_rfl) (by kernel_rfl) (fun oi hoi => ?_) rfl
            rotate_left
            simp only [List.getElem?_toArray, List.getElem?_cons_succ, List.getElem?_cons_zero] at hoi
            cases hoi
            refine ⟨fun _ _ _ h => h, Or.inl ⟨by rfl, ?_⟩, by assumption, ?_⟩
            · (intro w hSw; (try dsimp only at hSw); go_simp; all_goals with_reducible rfl)
            try simp only [Act.put, List.setIfInBounds_toArray, List.set_cons_zero, List.set_cons_succ]
            refine C.tk_take (i := 6) (v := ?_) (by kernel_rfl) (by kernel_rfl) (by kernel_rfl) (fun oi hoi => ?_) rfl
            rotate_left
            simp only [List.getElem?_toArray, List.getElem?_cons_succ, List.getElem?_cons_zero] at hoi
            cases hoi
            refine ⟨fun _ _ _ h => h, Or.inl ⟨by rfl, ?_⟩, by assumption, ?_⟩
            · (intro w hSw; (try dsimp only at hSw); go_simp; all_goals with_reducible rfl)
            try simp only [Act.put, List.setIfInBounds_toArray, List.set_cons_zero, List.set_cons_succ]
            refine C.tk_take (i := 7) (v := ?_) (by kernel_rfl) (by kernel_rfl) (by kernel_rfl) (fun oi hoi => ?_) rfl
            rotate_left
            simp only [List.getElem?_toArray, List.getElem?_cons_succ, List.getElem?_cons_zero] at hoi
            cases hoi
            refine ⟨fun _ _ _ h => h, Or.inl ⟨by rfl, ?_⟩, by assumption, ?_⟩
            · (intro w hSw; (try dsimp only at hSw); go_simp; all_goals with_reducible rfl)
            try simp only [Act.put, List.setIfInBounds_toArray, List.set_cons_zero, List.set_cons_succ]
            refine C.tk_take (i := 8) (v := ?_) (by kernel_rfl) (by kernel_rfl) (by kernel_rfl) (fun oi hoi => ?_) rfl
            rotate_left
            simp only [List.getElem?_toArray, List.getElem?_cons_succ, List.getElem?_cons_zero] at hoi
            cases hoi
            refine ⟨fun _ _ _ h => h, Or.inl ⟨by rfl, ?_⟩, by assumption, ?_⟩
            · (intro w hSw; (try dsimp only at hSw); go_simp; all_goals with_reducible rfl)
            try simp only [Act.put, List.setIfInBounds_toArray, List.set_cons_zero, List.set_cons_succ]
            refine C.tk_take (i := 9) (v := ?_) (by kernel_rfl) (by kernel_rfl) (by kernel_rfl) (fun oi hoi => ?_) rfl
            rotate_left
            simp only [List.getElem?_toArray, List.getElem?_cons_succ, List.getElem?_cons_zero] at hoi
            cases hoi
            refine ⟨fun _ _ _ h => h, Or.inl ⟨by rfl, ?_⟩, by assumption, ?_⟩
            · (intro w hSw; (try dsimp only at hSw); go_simp; all_goals with_reducible rfl)
            try simp only [Act.put, List.setIfInBounds_toArray, List.set_cons_zero, List.set_cons_succ]
            refine C.tk_take (i := 10) (v := ?_) (by kernel_rfl) (by kernel_rfl) (by kernel_rfl) (fun oi hoi => ?_) rfl
            rotate_left
            simp only [List.getElem?_toArray, List.getElem?_cons_succ, List.getElem?_cons_zero] at hoi
            cases hoi
            refine ⟨fun _ _ _ h => h, Or.inl ⟨by rfl, ?_⟩, by assumption, ?_⟩
            · (intro w hSw; (try dsimp only at hSw); go_simp; all_goals with_reducible rfl)
            try simp only [Act.put, List.setIfInBounds_toArray, List.set_cons_zero, List.set_cons_succ]
            refine C.tk_take (i := 11) (v := ?_) (by kernel_rfl) (by kernel_rfl) (by kernel_rfl) (fun oi hoi => ?_) rfl
            rotate_left
            simp only [List.getElem?_toArray, List.getElem?_cons_succ, List.getElem?_cons_zero] at hoi
            cases hoi
            refine ⟨fun _ _ _ h => h, Or.inl ⟨by rfl, ?_⟩, by assumption, ?_⟩
            · (intro w hSw; (try dsimp only at hSw); go_simp; all_goals with_reducible rfl)
            try simp only [Act.put, List.setIfInBounds_toArray, List.set_cons_zero, List.set_cons_succ]
            refine C.tk_take (i := 12) (v := ?_) (by kernel_rfl) (by kernel_rfl) (by kernel_rfl) (fun oi hoi => ?_) rfl
            rotate_left
            simp only [List.getElem?_toArray, List.getElem?_cons_succ, List.getElem?_cons_zero] at hoi
            cases hoi
            refine ⟨fun _ _ _ h => h, Or.inl ⟨by rfl, ?_⟩, by assumption, ?_⟩
            · (intro w hSw; (try dsimp only at hSw); go_simp; all_goals with_reducible rfl)
            try simp only [Act.put, List.setIfInBounds_toArray, List.set_cons_zero, List.set_cons_succ]
            refine C.tk_take (i := 13) (v := ?_) (by kernel_rfl) (by kernel_rfl) (by kernel_rfl) (fun oi hoi => ?_) rfl
            rotate_left
            simp only [List.getElem?_toArray, List.getElem?_cons_succ, List.getElem?_cons_zero] at hoi
            cases hoi
            refine ⟨fun _ _ _ h => h, Or.inl ⟨by rfl, ?_⟩, by assumption, ?_⟩
            · (intro w hSw; (try dsimp only at hSw); go_simp; all_goals with_reducible rfl)
            try simp only [Act.put, List.setIfInBounds_toArray, List.set_cons_zero, List.set_cons_succ]
            refine C.tk_take (i := 14) (v := ?_) (by kernel_rfl) (by kernel_rfl) (by kernel_rfl) (fun oi hoi => ?_) rfl
            rotate_left
            simp only [List.getElem?_toArray, List.getElem?_cons_succ, List.getElem?_cons_zero] at hoi
            cases hoi
            refine ⟨fun _ _ _ h => h, Or.inl ⟨by rfl, ?_⟩, by assumption, ?_⟩
            · (intro w hSw; (try dsimp only at hSw); go_simp; all_goals with_reducible rfl)
            try simp only [Act.put, List.setIfInBounds_toArray, List.set_cons_zero, List.set_cons_succ]
            refine C.tk_take (i := 15) (v := ?_) (by kernel_rfl) (by kernel_rfl) (by kernel_rfl) (fun oi hoi => ?_) rfl
            rotate_left
            simp only [List.getElem?_toArray, List.getElem?_cons_succ, List.getElem?_cons_zero] at hoi
            cases hoi
            refine ⟨fun _ _ _ h => h, Or.inl ⟨by rfl, ?_⟩, by assumption, ?_⟩
            · (intro w hSw; (try dsimp only at hSw); go_simp; all_goals with_reducible rfl)
            try simp only [Act.put, List.setIfInBounds_toArray, List.set_cons_zero, List.set_cons_succ]
            refine wpAnyH_ready (rs := [16]) (by kernel_rfl) (by simp) ?_
            refine AllReadyH.cons rfl (fun K hK => ?_) AllReadyH.nil
            rw [if_pos (by rfl)]
            go_simp
            go_at_call 11
            refine (pascalineref31_Uses.calls 1000 f0 f1 A3 d3 f3 rr _ HG3.out HD3.out HRR.out).mono ?_
            rintro e u1 ⟨rfl, hb⟩
            have hS := below_step (below_drew (Below.refl wr.heap.size wr)) hb
            have HD1 := Aside0.mk hS
            have hS1 : u1.cell? (ad.add (k * 4)) = some (.string f0) ∧ u1.cell? ⟨(ad.add (k * 4)).block, (ad.add (k * 4)).off + 1, none⟩ = some (.int .u32 f1) ∧ u1.cell? ⟨(ad.add (k * 4)).block, (ad.add (k * 4)).off + 3, none⟩ = some (.slice A3 f3.length d3) := ⟨pw_cell_below hS cx0, pw_cell_below hS cx1, pw_cell_below hS cx3⟩
            clear hb hS
            go_wp2
            refine hK.out _ _ hS1 (fun hHeld => ?_)
            clear hK
            try simp only [Act.put, List.setIfInBounds_toArray, List.set_cons_zero, List.set_cons_succ]
            refine C.tk_take (i := 17) (v := ?_) (by kernel_rfl) (by kernel_rfl) (by kernel_rfl) (fun oi hoi => ?_) rfl
            rotate_left
            simp only [List.getElem?_toArray, List.getElem?_cons_succ, List.getElem?_cons_zero] at hoi
            cases hoi
            refine ⟨fun _ _ _ h => h, Or.inl ⟨by rfl, ?_⟩, by assumption, ?_⟩
            · (intro w hSw; (try dsimp only at hSw); go_simp; all_goals with_reducible rfl)
            try simp only [Act.put, List.setIfInBounds_toArray, List.set_cons_zero, List.set_cons_succ]
            refine C.tk_take (i := 18) (v := ?_) (by kernel_rfl) (by kernel_rfl) (by kernel_rfl) (fun oi hoi => ?_) rfl
            rotate_left
            simp only [List.getElem?_toArray, List.getElem?_cons_succ, List.getElem?_cons_zero] at hoi
            cases hoi
            refine ⟨fun _ _ _ h => h, Or.inl ⟨by rfl, ?_⟩, by assumption, ?_⟩
            · (intro w hSw; (try dsimp only at hSw); go_simp; all_goals with_reducible rfl)
            try simp only [Act.put, List.setIfInBounds_toArray, List.set_cons_zero, List.set_cons_succ]
            refine wpAnyH_done (by kernel_rfl) ?_ _
            go_wp2
            go_roundg (fs.length - k)
            case measure => have := HI.out; have := HH.out; omega
            case rel => exact ⟨k + 1, (by first | rfl | (simp; done)), (by rw [HNX.out, HR2.out, HS2.out]), ⟨⟨by have := HI.out; have := HH.out; omega, by have := HH.out; omega⟩⟩, ⟨by
              rw [HTK.out]
              intro f hf
              rcases List.mem_append.1 hf with h1 | h1
              · exact HOK.out f h1
              · rw [List.mem_singleton.1 h1]; exact HOK2.out⟩, ⟨blk_below HX.out HD1.out⟩, ⟨below_step HB.out HD1.out⟩⟩
        · have hke : k = fs.length := by have := HI.out; omega
          subst hke
          have k2 : ¬ ((fs.length : Int) < (fs.length : Int)) := by omega
          have k2b : decide (fs.length < fs.length) = false := decide_eq_false (by omega)
          have HFA : Aside0 (∀ f ∈ fs, RuOk f) := ⟨by have := HOK.out; rw [List.take_length] at this; exact this⟩
          clear hk HOK HB3 HX3
          go_wp2_with fail
          go_loopg [10] (ms.length + 1) (fun kx y10 wr => ∃ k : Nat, y10 = .int .i64 k ∧ Aside0 (k + kx = ms.length + 1 ∧ k ≤ ms.length) ∧ Aside0 (∀ q, q < k → (-1099511627776 ≤ (rd_T49 ms (q : Int)).f1 ∧ (rd_T49 ms (q : Int)).f1 ≤ 1099511627776) ∧ (-1099511627776 ≤ (rd_T49 ms (q : Int)).f2 ∧ (rd_T49 ms (q : Int)).f2 ≤ 1099511627776)) ∧ Aside0 (wr.heap[b3]? = some (.cells #[.int .u32 a0, .int .u32 a1, .int .u32 a2, .int .u32 a3, .int .u32 a4, .slice A5 n5 c5, .slice A6 n6 c6, .int .u32 s7, .int .u32 s8, .int .u32 s9, .int .u32 s10, .slice AM ms.length cM] 40 (0, 0))) ∧ Aside0 (Below w.heap.size w wr))
          case atStart => exact ⟨0, rfl, ⟨⟨by omega, by omega⟩⟩, ⟨fun q hq => by omega⟩, HX, HB⟩
          case round =>
            clear HI HX HB
            obtain ⟨k, rfl, HI, HP, HX, HB⟩ := hrel
            have c11 := blk_cell HX.out 11
            by_cases hk : k < ms.length
            · obtain ⟨ad, e, cx0, cx1, cx2, cx3, cx4⟩ := at_T49 HM.out (k : Int) (by omega) (by omega)
              cases e
              rw [Int.toNat_natCast] at cx0 cx1 cx2 cx3 cx4
              replace cx1 := pw_cell_below HB.out cx1
              replace cx2 := pw_cell_below HB.out cx2
              clear cx0 cx3 cx4
              obtain ⟨m1, hm1⟩ : ∃ m1, (rd_T49 ms (k : Int)).f1 = m1 := ⟨_, rfl⟩
              obtain ⟨m2, hm2⟩ : ∃ m2, (rd_T49 ms (k : Int)).f2 = m2 := ⟨_, rfl⟩
              rw [hm1] at cx1
              rw [hm2] at cx2
              have HM1 := Aside0.mk hm1; have HM2 := Aside0.mk hm2; have HH := Aside0.mk hk
              have k1 : (0 : Int) ≤ (k : Int) := by omega
              have k2 : (k : Int) < (ms.length : Int) := by omega
              have k2b : decide (k < ms.length) = true := decide_eq_true hk
              have k3 : (k : Int) ≤ 80 := by omega
              clear hk hm1 hm2
              go_upto_region 18 with fail
              obtain ⟨b4, hb4⟩ : ∃ q : Bool, q = (decide (1099511627776 < m1) || (decide (1099511627776 < m2) || (decide (m1 < -1099511627776) || decide (m2 < -1099511627776)))) := ⟨_, rfl⟩
              have Hb4 : Aside0 (b4 = (decide (1099511627776 < m1) || (decide (1099511627776 < m2) || (decide (m1 < -1099511627776) || decide (m2 < -1099511627776))))) := ⟨hb4⟩
              clear hb4
              go_cut [127] (fun s wx => s = .bool b4 ∧ wx = wr)
              case first =>
                by_cases k0 : 1099511627776 < m1
                · have kd0 : decide (1099511627776 < m1) = true := decide_eq_true k0
                  have hv : b4 = true := by rw [Hb4.out, kd0, Bool.true_or]
                  have HV := Aside0.mk hv
                  clear hv
                  go_wp2_with fail
                  go_meet
                  case rel => exact ⟨by rw [HV.out], rfl⟩
                · have kd0 : decide (1099511627776 < m1) = false := decide_eq_false k0
                  by_cases k1 : 1099511627776 < m2
                  · have kd1 : decide (1099511627776 < m2) = true := decide_eq_true k1
                    have hv : b4 = true := by rw [Hb4.out, kd0, Bool.false_or, kd1, Bool.true_or]
                    have HV := Aside0.mk hv
                    clear hv
                    go_wp2_with fail
                    go_meet
                    case rel => exact ⟨by rw [HV.out], rfl⟩
                  · have kd1 : decide (1099511627776 < m2) = false := decide_eq_false k1
                    by_cases k2 : m1 < -1099511627776
                    · have kd2 : decide (m1 < -1099511627776) = true := decide_eq_true k2
                      have hv : b4 = true := by rw [Hb4.out, kd0, Bool.false_or, kd1, Bool.false_or, kd2, Bool.true_or]
                      have HV := Aside0.mk hv
                      clear hv
                      go_wp2_with fail
                      go_meet
                      case rel => exact ⟨by rw [HV.out], rfl⟩
                    · have kd2 : decide (m1 < -1099511627776) = false := decide_eq_false k2
                      by_cases k3 : m2 < -1099511627776
                      · have kd3 : decide (m2 < -1099511627776) = true := decide_eq_true k3
                        have hv : b4 = true := by rw [Hb4.out, kd0, Bool.false_or, kd1, Bool.false_or, kd2, Bool.false_or, kd3]
                        have HV := Aside0.mk hv
                        clear hv
                        go_wp2_with fail
                        go_meet
                        case rel => exact ⟨by rw [HV.out], rfl⟩
                      · have kd3 : decide (m2 < -1099511627776) = false := decide_eq_false k3
                        have hv : b4 = false := by rw [Hb4.out, kd0, Bool.false_or, kd1, Bool.false_or, kd2, Bool.false_or, kd3]
                        have HV := Aside0.mk hv
                        clear hv
                        go_wp2_with fail
                        go_meet
                        case rel => exact ⟨by rw [HV.out], rfl⟩
              case rest =>
                obtain ⟨rfl, hw⟩ := hcut
                replace hw := hw.symm
                first | subst hw | (rw [← hw])
                cases b4
                case true =>
                  go_wp2
                  go_ret
                  exact ⟨rfl, HB.out⟩
                have hnb : (-1099511627776 ≤ (rd_T49 ms (k : Int)).f1 ∧ (rd_T49 ms (k : Int)).f1 ≤ 1099511627776) ∧ (-1099511627776 ≤ (rd_T49 ms (k : Int)).f2 ∧ (rd_T49 ms (k : Int)).f2 ≤ 1099511627776) := by have := Hb4.out; rw [← HM1.out, ← HM2.out] at this; simp at this; omega
                have HNB := Aside0.mk hnb
                clear hnb
                go_wp2
                go_roundg (ms.length - k)
                case measure => have := HI.out; have := HH.out; omega
                case rel => exact ⟨k + 1, (by first | rfl | (simp; done)), ⟨⟨by have := HI.out; have := HH.out; omega, by have := HH.out; omega⟩⟩, ⟨fun q hq => by
                  rcases Nat.lt_or_ge q k with h1 | h1
                  · exact HP.out q h1
                  · have : q = k := by omega
                    subst this
                    exact HNB.out⟩, HX, HB⟩
            · have hke : k = ms.length := by have := HI.out; omega
              subst hke
              have k2 : ¬ ((ms.length : Int) < (ms.length : Int)) := by omega
              have k2b : decide (ms.length < ms.length) = false := decide_eq_false (by omega)
              clear hk
              have HMS : Aside0 (∀ m ∈ ms, RpOk m) := ⟨fun m hm => by
                obtain ⟨q, hq, rfl⟩ := List.mem_iff_getElem.1 hm
                have h1 := HP.out q hq
                have h2 := HSM.out _ hm
                unfold rd_T49 at h1
                rw [Int.toNat_natCast, List.getD_eq_getElem?_getD, List.getElem?_eq_getElem hq] at h1
                exact ⟨h2.1, h1.1, h1.2, h2.2.2.2.1, h2.2.2.2.2⟩⟩
              have HFS : Aside0 (∀ f ∈ fs, RuOk f) := HFA
              clear HP c11
              obtain ⟨W9, hW9⟩ : ∃ W9, W9 = wr.alloc (.cells #[.int .u32 a0, .int .u32 a1, .int .u32 a2, .int .u32 a3, .int .u32 a4, .slice A5 n5 c5, .slice A6 n6 c6, .int .u32 s7, .int .u32 s8, .int .u32 s9, .int .u32 s10, .slice AM ms.length cM, .slice AF fs.length cF, .slice none 0 0, .slice AT ts.length cT] 51) := ⟨_, rfl⟩
              have hB1 : Below wr.heap.size wr W9 := by rw [hW9]; exact below_alloc (Below.refl _ _) _
              obtain ⟨B9, hB9⟩ : ∃ B9, wr.heap.size = B9 := ⟨_, rfl⟩
              have yb : W9.heap[B9]? = some (.cells #[.int .u32 a0, .int .u32 a1, .int .u32 a2, .int .u32 a3, .int .u32 a4, .slice A5 n5 c5, .slice A6 n6 c6, .int .u32 s7, .int .u32 s8, .int .u32 s9, .int .u32 s10, .slice AM ms.length cM, .slice AF fs.length cF, .slice none 0 0, .slice AT ts.length cT] 51 (0, 0)) := by rw [hW9, ← hB9]; exact blk_new wr _
              have HW9 := Aside0.mk hW9
              have HB9n := Aside0.mk hB9
              have HY0 := Aside0.mk yb
              have HZ0 := Aside0.mk (blk_below HX.out hB1)
              have HD0 := Aside0.mk (Below.refl W9.heap.size W9)
              have HB9 := Aside0.mk (below_step HB.out hB1)
              clear hB1 hW9 yb hB9
              have c0 := blk_cell HX.out 0
              have c1 := blk_cell HX.out 1
              have c2 := blk_cell HX.out 2
              have c3 := blk_cell HX.out 3
              have c4 := blk_cell HX.out 4
              have c5 := blk_cell HX.out 5
              have c6 := blk_cell HX.out 6
              have c7 := blk_cell HX.out 7
              have c8 := blk_cell HX.out 8
              have c9 := blk_cell HX.out 9
              have c10 := blk_cell HX.out 10
              have c11 := blk_cell HX.out 11
              go_wp2
              rw [← HW9.out, HB9n.out]
              clear c0 c1 c2 c3 c4 c5 c6 c7 c8 c9 c10 c11
              refine wp_region_held_drew (S := fun w' => w'.cell? ⟨B9, 0, none⟩ = some (.int .u32 a0) ∧ w'.cell? ⟨B9, 1, none⟩ = some (.int .u32 a1) ∧ w'.cell? ⟨B9, 2, none⟩ = some (.int .u32 a2) ∧ w'.cell? ⟨B9, 3, none⟩ = some (.int .u32 a3) ∧ w'.cell? ⟨B9, 4, none⟩ = some (.int .u32 a4) ∧ w'.cell? ⟨B9, 5, none⟩ = some (.slice A5 n5 c5) ∧ w'.cell? ⟨B9, 6, none⟩ = some (.slice A6 n6 c6) ∧ w'.cell? ⟨B9, 7, none⟩ = some (.int .u32 s7) ∧ w'.cell? ⟨B9, 8, none⟩ = some (.int .u32 s8) ∧ w'.cell? ⟨B9, 9, none⟩ = some (.int .u32 s9) ∧ w'.cell? ⟨B9, 10, none⟩ = some (.int .u32 s10) ∧ w'.cell? ⟨B9, 11, none⟩ = some (.slice AM ms.length cM) ∧ w'.cell? ⟨B9, 12, none⟩ = some (.slice AF fs.length cF) ∧ w'.cell? ⟨B9, 13, none⟩ = some (.slice none 0 0) ∧ w'.cell? ⟨B9, 14, none⟩ = some (.slice AT ts.length cT) ∧ w'.cell? ⟨b3, 0, none⟩ = some (.int .u32 a0) ∧ w'.cell? ⟨b3, 1, none⟩ = some (.int .u32 a1) ∧ w'.cell? ⟨b3, 2, none⟩ = some (.int .u32 a2) ∧ w'.cell? ⟨b3, 3, none⟩ = some (.int .u32 a3) ∧ w'.cell? ⟨b3, 4, none⟩ = some (.int .u32 a4) ∧ w'.cell? ⟨b3, 5, none⟩ = some (.slice A5 n5 c5) ∧ w'.cell? ⟨b3, 6, none⟩ = some (.slice A6 n6 c6) ∧ w'.cell? ⟨b3, 7, none⟩ = some (.int .u32 s7) ∧ w'.cell? ⟨b3, 8, none⟩ = some (.int .u32 s8) ∧ w'.cell? ⟨b3, 9, none⟩ = some (.int .u32 s9) ∧ w'.cell? ⟨b3, 10, none⟩ = some (.int .u32 s10) ∧ w'.cell? ⟨b3, 11, none⟩ = some (.slice AM ms.length cM)) (by kernel_rfl) (show W9.drew.cell? ⟨B9, 0, none⟩ = some (.int .u32 a0) ∧ W9.drew.cell? ⟨B9, 1, none⟩ = some (.int .u32 a1) ∧ W9.drew.cell? ⟨B9, 2, none⟩ = some (.int .u32 a2) ∧ W9.drew.cell? ⟨B9, 3, none⟩ = some (.int .u32 a3) ∧ W9.drew.cell? ⟨B9, 4, none⟩ = some (.int .u32 a4) ∧ W9.drew.cell? ⟨B9, 5, none⟩ = some (.slice A5 n5 c5) ∧ W9.drew.cell? ⟨B9, 6, none⟩ = some (.slice A6 n6 c6) ∧ W9.drew.cell? ⟨B9, 7, none⟩ = some (.int .u32 s7) ∧ W9.drew.cell? ⟨B9, 8, none⟩ = some (.int .u32 s8) ∧ W9.drew.cell? ⟨B9, 9, none⟩ = some (.int .u32 s9) ∧ W9.drew.cell? ⟨B9, 10, none⟩ = some (.int .u32 s10) ∧ W9.drew.cell? ⟨B9, 11, none⟩ = some (.slice AM ms.length cM) ∧ W9.drew.cell? ⟨B9, 12, none⟩ = some (.slice AF fs.length cF) ∧ W9.drew.cell? ⟨B9, 13, none⟩ = some (.slice none 0 0) ∧ W9.drew.cell? ⟨B9, 14, none⟩ = some (.slice AT ts.length cT) ∧ W9.drew.cell? ⟨b3, 0, none⟩ = some (.int .u32 a0) ∧ W9.drew.cell? ⟨b3, 1, none⟩ = some (.int .u32 a1) ∧ W9.drew.cell? ⟨b3, 2, none⟩ = some (.int .u32 a2) ∧ W9.drew.cell? ⟨b3, 3, none⟩ = some (.int .u32 a3) ∧ W9.drew.cell? ⟨b3, 4, none⟩ = some (.int .u32 a4) ∧ W9.drew.cell? ⟨b3, 5, none⟩ = some (.slice A5 n5 c5) ∧ W9.drew.cell? ⟨b3, 6, none⟩ = some (.slice A6 n6 c6) ∧ W9.drew.cell? ⟨b3, 7, none⟩ = some (.int .u32 s7) ∧ W9.drew.cell? ⟨b3, 8, none⟩ = some (.int .u32 s8) ∧ W9.drew.cell? ⟨b3, 9, none⟩ = some (.int .u32 s9) ∧ W9.drew.cell? ⟨b3, 10, none⟩ = some (.int .u32 s10) ∧ W9.drew.cell? ⟨b3, 11, none⟩ = some (.slice AM ms.length cM) from ⟨blk_cell (blk_drew HY0.out) 0, blk_cell (blk_drew HY0.out) 1, blk_cell (blk_drew HY0.out) 2, blk_cell (blk_drew HY0.out) 3, blk_cell (blk_drew HY0.out) 4, blk_cell (blk_drew HY0.out) 5, blk_cell (blk_drew HY0.out) 6, blk_cell (blk_drew HY0.out) 7, blk_cell (blk_drew HY0.out) 8, blk_cell (blk_drew HY0.out) 9, blk_cell (blk_drew HY0.out) 10, blk_cell (blk_drew HY0.out) 11, blk_cell (blk_drew HY0.out) 12, blk_cell (blk_drew HY0.out) 13, blk_cell (blk_drew HY0.out) 14, blk_cell (blk_drew HZ0.out) 0, blk_cell (blk_drew HZ0.out) 1, blk_cell (blk_drew HZ0.out) 2, blk_cell (blk_drew HZ0.out) 3, blk_cell (blk_drew HZ0.out) 4, blk_cell (blk_drew HZ0.out) 5, blk_cell (blk_drew HZ0.out) 6, blk_cell (blk_drew HZ0.out) 7, blk_cell (blk_drew HZ0.out) 8, blk_cell (blk_drew HZ0.out) 9, blk_cell (blk_drew HZ0.out) 10, blk_cell (blk_drew HZ0.out) 11⟩) (fun hHeld => ?_)
              refine C.tk_take (i := 0) (v := ?_) (by kernel_rfl) (by kernel_rfl) (by kernel_rfl) (fun oi hoi => ?_) rfl
              rotate_left
              simp only [List.getElem?_toArray, List.getElem?_cons_succ, List.getElem?_cons_zero] at hoi
              cases hoi
              refine ⟨fun _ _ _ h => h, Or.inl ⟨by rfl, ?_⟩, by assumption, ?_⟩
              · (intro w hSw; (try dsimp only at hSw); go_simp; all_goals with_reducible rfl)
              try simp only [Act.put, List.setIfInBounds_toArray, List.set_cons_zero, List.set_cons_succ]
              refine C.tk_take (i := 2) (v := ?_) (by kernel_rfl) (by kernel_rfl) (by kernel_rfl) (fun oi hoi => ?_) rfl
              rotate_left
              simp only [List.getElem?_toArray, List.getElem?_cons_succ, List.getElem?_cons_zero] at hoi
              cases hoi
              refine ⟨fun _ _ _ h => h, Or.inl ⟨by rfl, ?_⟩, by assumption, ?_⟩
              · (intro w hSw; (try dsimp only at hSw); go_simp; all_goals with_reducible rfl)
              try simp only [Act.put, List.setIfInBounds_toArray, List.set_cons_zero, List.set_cons_succ]
              refine C.tk_take (i := 5) (v := ?_) (by kernel_rfl) (by kernel_rfl) (by kernel_rfl) (fun oi hoi => ?_) rfl
              rotate_left
              simp only [List.getElem?_toArray, List.getElem?_cons_succ, List.getElem?_cons_zero] at hoi
              cases hoi
              refine ⟨fun _ _ _ h => h, Or.inl ⟨by rfl, ?_⟩, by assumption, ?_⟩
              · (intro w hSw; (try dsimp only at hSw); go_simp; all_goals with_reducible rfl)
              try simp only [Act.put, List.setIfInBounds_toArray, List.set_cons_zero, List.set_cons_succ]
              refine wpAnyH_ready (rs := [1]) (by kernel_rfl) (by simp) ?_
              refine AllReadyH.cons rfl (fun K hK => ?_) AllReadyH.nil
              rw [if_pos (by rfl)]
              go_simp
              go_at_call 12
              refine (rp_calls hT _ a0 a1 a2 a3 a4 HAA.out A5 n5 c5 A6 n6 c6 s7 s8 s9 s10 AM cM ms (Kd.C_below HM.out (below_drew HB9.out)) HMS.out HML.out AF fs.length cF none 0 0 AT cT ts (Kd.C_below HTT.out (below_drew HB9.out)) HTL.out HTS.out).mono ?_
              rintro e u1 ⟨rfl, hb⟩
              have hS := below_step (below_drew (Below.refl W9.heap.size W9)) hb
              have HY1 := Aside0.mk (blk_below HY0.out hS)
              have HZ1 := Aside0.mk (blk_below HZ0.out hS)
              have HD1 := Aside0.mk (below_step HD0.out hS)
              have hS1 : u1.cell? ⟨B9, 0, none⟩ = some (.int .u32 a0) ∧ u1.cell? ⟨B9, 1, none⟩ = some (.int .u32 a1) ∧ u1.cell? ⟨B9, 2, none⟩ = some (.int .u32 a2) ∧ u1.cell? ⟨B9, 3, none⟩ = some (.int .u32 a3) ∧ u1.cell? ⟨B9, 4, none⟩ = some (.int .u32 a4) ∧ u1.cell? ⟨B9, 5, none⟩ = some (.slice A5 n5 c5) ∧ u1.cell? ⟨B9, 6, none⟩ = some (.slice A6 n6 c6) ∧ u1.cell? ⟨B9, 7, none⟩ = some (.int .u32 s7) ∧ u1.cell? ⟨B9, 8, none⟩ = some (.int .u32 s8) ∧ u1.cell? ⟨B9, 9, none⟩ = some (.int .u32 s9) ∧ u1.cell? ⟨B9, 10, none⟩ = some (.int .u32 s10) ∧ u1.cell? ⟨B9, 11, none⟩ = some (.slice AM ms.length cM) ∧ u1.cell? ⟨B9, 12, none⟩ = some (.slice AF fs.length cF) ∧ u1.cell? ⟨B9, 13, none⟩ = some (.slice none 0 0) ∧ u1.cell? ⟨B9, 14, none⟩ = some (.slice AT ts.length cT) ∧ u1.cell? ⟨b3, 0, none⟩ = some (.int .u32 a0) ∧ u1.cell? ⟨b3, 1, none⟩ = some (.int .u32 a1) ∧ u1.cell? ⟨b3, 2, none⟩ = some (.int .u32 a2) ∧ u1.cell? ⟨b3, 3, none⟩ = some (.int .u32 a3) ∧ u1.cell? ⟨b3, 4, none⟩ = some (.int .u32 a4) ∧ u1.cell? ⟨b3, 5, none⟩ = some (.slice A5 n5 c5) ∧ u1.cell? ⟨b3, 6, none⟩ = some (.slice A6 n6 c6) ∧ u1.cell? ⟨b3, 7, none⟩ = some (.int .u32 s7) ∧ u1.cell? ⟨b3, 8, none⟩ = some (.int .u32 s8) ∧ u1.cell? ⟨b3, 9, none⟩ = some (.int .u32 s9) ∧ u1.cell? ⟨b3, 10, none⟩ = some (.int .u32 s10) ∧ u1.cell? ⟨b3, 11, none⟩ = some (.slice AM ms.length cM) := ⟨blk_cell HY1.out 0, blk_cell HY1.out 1, blk_cell HY1.out 2, blk_cell HY1.out 3, blk_cell HY1.out 4, blk_cell HY1.out 5, blk_cell HY1.out 6, blk_cell HY1.out 7, blk_cell HY1.out 8, blk_cell HY1.out 9, blk_cell HY1.out 10, blk_cell HY1.out 11, blk_cell HY1.out 12, blk_cell HY1.out 13, blk_cell HY1.out 14, blk_cell HZ1.out 0, blk_cell HZ1.out 1, blk_cell HZ1.out 2, blk_cell HZ1.out 3, blk_cell HZ1.out 4, blk_cell HZ1.out 5, blk_cell HZ1.out 6, blk_cell HZ1.out 7, blk_cell HZ1.out 8, blk_cell HZ1.out 9, blk_cell HZ1.out 10, blk_cell HZ1.out 11⟩
              clear hb hS
              go_wp2
              refine hK.out _ _ hS1 (fun hHeld => ?_)
              clear hK
              try simp only [Act.put, List.setIfInBounds_toArray, List.set_cons_zero, List.set_cons_succ]
              refine wpAnyH_ready (rs := [3]) (by kernel_rfl) (by simp) ?_
              refine AllReadyH.cons rfl (fun K hK => ?_) AllReadyH.nil
              rw [if_pos (by rfl)]
              go_simp
              go_at_call 14
              refine (rf_calls _ a0 a1 a2 a3 a4 A5 n5 c5 A6 n6 c6 s7 s8 s9 s10 AM cM ms (Kd.C_below HM.out (below_step HB9.out HD1.out)) HML.out).mono ?_
              rintro e u2 ⟨Ak, ck, rfl, hC, hb⟩
              have hS := hb
              have HY2 := Aside0.mk (blk_below HY1.out hS)
              have HZ2 := Aside0.mk (blk_below HZ1.out hS)
              have HD2 := Aside0.mk (below_step HD1.out hS)
              have hS2 : u2.cell? ⟨B9, 0, none⟩ = some (.int .u32 a0) ∧ u2.cell? ⟨B9, 1, none⟩ = some (.int .u32 a1) ∧ u2.cell? ⟨B9, 2, none⟩ = some (.int .u32 a2) ∧ u2.cell? ⟨B9, 3, none⟩ = some (.int .u32 a3) ∧ u2.cell? ⟨B9, 4, none⟩ = some (.int .u32 a4) ∧ u2.cell? ⟨B9, 5, none⟩ = some (.slice A5 n5 c5) ∧ u2.cell? ⟨B9, 6, none⟩ = some (.slice A6 n6 c6) ∧ u2.cell? ⟨B9, 7, none⟩ = some (.int .u32 s7) ∧ u2.cell? ⟨B9, 8, none⟩ = some (.int .u32 s8) ∧ u2.cell? ⟨B9, 9, none⟩ = some (.int .u32 s9) ∧ u2.cell? ⟨B9, 10, none⟩ = some (.int .u32 s10) ∧ u2.cell? ⟨B9, 11, none⟩ = some (.slice AM ms.length cM) ∧ u2.cell? ⟨B9, 12, none⟩ = some (.slice AF fs.length cF) ∧ u2.cell? ⟨B9, 13, none⟩ = some (.slice none 0 0) ∧ u2.cell? ⟨B9, 14, none⟩ = some (.slice AT ts.length cT) ∧ u2.cell? ⟨b3, 0, none⟩ = some (.int .u32 a0) ∧ u2.cell? ⟨b3, 1, none⟩ = some (.int .u32 a1) ∧ u2.cell? ⟨b3, 2, none⟩ = some (.int .u32 a2) ∧ u2.cell? ⟨b3, 3, none⟩ = some (.int .u32 a3) ∧ u2.cell? ⟨b3, 4, none⟩ = some (.int .u32 a4) ∧ u2.cell? ⟨b3, 5, none⟩ = some (.slice A5 n5 c5) ∧ u2.cell? ⟨b3, 6, none⟩ = some (.slice A6 n6 c6) ∧ u2.cell? ⟨b3, 7, none⟩ = some (.int .u32 s7) ∧ u2.cell? ⟨b3, 8, none⟩ = some (.int .u32 s8) ∧ u2.cell? ⟨b3, 9, none⟩ = some (.int .u32 s9) ∧ u2.cell? ⟨b3, 10, none⟩ = some (.int .u32 s10) ∧ u2.cell? ⟨b3, 11, none⟩ = some (.slice AM ms.length cM) := ⟨blk_cell HY2.out 0, blk_cell HY2.out 1, blk_cell HY2.out 2, blk_cell HY2.out 3, blk_cell HY2.out 4, blk_cell HY2.out 5, blk_cell HY2.out 6, blk_cell HY2.out 7, blk_cell HY2.out 8, blk_cell HY2.out 9, blk_cell HY2.out 10, blk_cell HY2.out 11, blk_cell HY2.out 12, blk_cell HY2.out 13, blk_cell HY2.out 14, blk_cell HZ2.out 0, blk_cell HZ2.out 1, blk_cell HZ2.out 2, blk_cell HZ2.out 3, blk_cell HZ2.out 4, blk_cell HZ2.out 5, blk_cell HZ2.out 6, blk_cell HZ2.out 7, blk_cell HZ2.out 8, blk_cell HZ2.out 9, blk_cell HZ2.out 10, blk_cell HZ2.out 11⟩
              have HCK := Aside0.mk hC
              have hfld := fun W : World => rl_field (.int .u32 a0) (.int .u32 a1) (.int .u32 a2) (.int .u32 a3) (.int .u32 a4) (.slice A5 n5 c5) (.slice A6 n6 c6) (.int .u32 s7) (.int .u32 s10) (.slice Ak ms.length ck) (.int .u32 s9) (.int .u32 s8) W
              clear hb hS hC
              go_wp2
              refine hK.out _ _ hS2 (fun hHeld => ?_)
              clear hK
              try simp only [Act.put, List.setIfInBounds_toArray, List.set_cons_zero, List.set_cons_succ]
              refine C.tk_take (i := 4) (v := ?_) (by kernel_rfl) (by kernel_rfl) (by kernel_rfl) (fun oi hoi => ?_) rfl
              rotate_left
              simp only [List.getElem?_toArray, List.getElem?_cons_succ, List.getElem?_cons_zero] at hoi
              cases hoi
              refine ⟨fun _ _ _ h => h, Or.inl ⟨by rfl, ?_⟩, by assumption, ?_⟩
              · (intro w hSw; (try dsimp only at hSw); go_simp; all_goals with_reducible rfl)
              try simp only [Act.put, List.setIfInBounds_toArray, List.set_cons_zero, List.set_cons_succ]
              clear hfld
              refine wpAnyH_ready (rs := [6]) (by kernel_rfl) (by simp) ?_
              refine AllReadyH.cons rfl (fun K hK => ?_) AllReadyH.nil
              rw [if_pos (by rfl)]
              go_simp
              go_at_call 13
              refine (rp_ref_calls hT _ a0 a1 a2 a3 a4 HAA.out A5 n5 c5 A6 n6 c6 s7 s10 Ak ck ms HCK.out HMS.out HML.out AT cT ts (Kd.C_below HTT.out (below_step HB9.out HD2.out)) HTL.out HTS.out).mono ?_
              rintro e u3 ⟨rfl, hb⟩
              have hS := hb
              have HY3 := Aside0.mk (blk_below HY2.out hS)
              have HZ3 := Aside0.mk (blk_below HZ2.out hS)
              have HD3 := Aside0.mk (below_step HD2.out hS)
              have hS3 : u3.cell? ⟨B9, 0, none⟩ = some (.int .u32 a0) ∧ u3.cell? ⟨B9, 1, none⟩ = some (.int .u32 a1) ∧ u3.cell? ⟨B9, 2, none⟩ = some (.int .u32 a2) ∧ u3.cell? ⟨B9, 3, none⟩ = some (.int .u32 a3) ∧ u3.cell? ⟨B9, 4, none⟩ = some (.int .u32 a4) ∧ u3.cell? ⟨B9, 5, none⟩ = some (.slice A5 n5 c5) ∧ u3.cell? ⟨B9, 6, none⟩ = some (.slice A6 n6 c6) ∧ u3.cell? ⟨B9, 7, none⟩ = some (.int .u32 s7) ∧ u3.cell? ⟨B9, 8, none⟩ = some (.int .u32 s8) ∧ u3.cell? ⟨B9, 9, none⟩ = some (.int .u32 s9) ∧ u3.cell? ⟨B9, 10, none⟩ = some (.int .u32 s10) ∧ u3.cell? ⟨B9, 11, none⟩ = some (.slice AM ms.length cM) ∧ u3.cell? ⟨B9, 12, none⟩ = some (.slice AF fs.length cF) ∧ u3.cell? ⟨B9, 13, none⟩ = some (.slice none 0 0) ∧ u3.cell? ⟨B9, 14, none⟩ = some (.slice AT ts.length cT) ∧ u3.cell? ⟨b3, 0, none⟩ = some (.int .u32 a0) ∧ u3.cell? ⟨b3, 1, none⟩ = some (.int .u32 a1) ∧ u3.cell? ⟨b3, 2, none⟩ = some (.int .u32 a2) ∧ u3.cell? ⟨b3, 3, none⟩ = some (.int .u32 a3) ∧ u3.cell? ⟨b3, 4, none⟩ = some (.int .u32 a4) ∧ u3.cell? ⟨b3, 5, none⟩ = some (.slice A5 n5 c5) ∧ u3.cell? ⟨b3, 6, none⟩ = some (.slice A6 n6 c6) ∧ u3.cell? ⟨b3, 7, none⟩ = some (.int .u32 s7) ∧ u3.cell? ⟨b3, 8, none⟩ = some (.int .u32 s8) ∧ u3.cell? ⟨b3, 9, none⟩ = some (.int .u32 s9) ∧ u3.cell? ⟨b3, 10, none⟩ = some (.int .u32 s10) ∧ u3.cell? ⟨b3, 11, none⟩ = some (.slice AM ms.length cM) := ⟨blk_cell HY3.out 0, blk_cell HY3.out 1, blk_cell HY3.out 2, blk_cell HY3.out 3, blk_cell HY3.out 4, blk_cell HY3.out 5, blk_cell HY3.out 6, blk_cell HY3.out 7, blk_cell HY3.out 8, blk_cell HY3.out 9, blk_cell HY3.out 10, blk_cell HY3.out 11, blk_cell HY3.out 12, blk_cell HY3.out 13, blk_cell HY3.out 14, blk_cell HZ3.out 0, blk_cell HZ3.out 1, blk_cell HZ3.out 2, blk_cell HZ3.out 3, blk_cell HZ3.out 4, blk_cell HZ3.out 5, blk_cell HZ3.out 6, blk_cell HZ3.out 7, blk_cell HZ3.out 8, blk_cell HZ3.out 9, blk_cell HZ3.out 10, blk_cell HZ3.out 11⟩
              clear hb hS
              go_wp2
              refine hK.out _ _ hS3 (fun hHeld => ?_)
              clear hK
              try simp only [Act.put, List.setIfInBounds_toArray, List.set_cons_zero, List.set_cons_succ]
              refine C.tk_take (i := 7) (v := ?_) (by kernel_rfl) (by kernel_rfl) (by kernel_rfl) (fun oi hoi => ?_) rfl
              rotate_left
              simp only [List.getElem?_toArray, List.getElem?_cons_succ, List.getElem?_cons_zero] at hoi
              cases hoi
              refine ⟨fun _ _ _ h => h, Or.inl ⟨by rfl, ?_⟩, by assumption, ?_⟩
              · (intro w hSw; (try dsimp only at hSw); go_simp; all_goals with_reducible rfl)
              try simp only [Act.put, List.setIfInBounds_toArray, List.set_cons_zero, List.set_cons_succ]
              refine C.tk_take (i := 8) (v := ?_) (by kernel_rfl) (by kernel_rfl) (by kernel_rfl) (fun oi hoi => ?_) rfl
              rotate_left
              simp only [List.getElem?_toArray, List.getElem?_cons_succ, List.getElem?_cons_zero] at hoi
              cases hoi
              refine ⟨fun _ _ _ h => h, Or.inl ⟨by rfl, ?_⟩, by assumption, ?_⟩
              · (intro w hSw; (try dsimp only at hSw); go_simp; all_goals with_reducible rfl)
              try simp only [Act.put, List.setIfInBounds_toArray, List.set_cons_zero, List.set_cons_succ]
              refine C.tk_take (i := 9) (v := ?_) (by kernel_rfl) (by kernel_rfl) (by kernel_rfl) (fun oi hoi => ?_) rfl
              rotate_left
              simp only [List.getElem?_toArray, List.getElem?_cons_succ, List.getElem?_cons_zero] at hoi
              cases hoi
              refine ⟨fun _ _ _ h => h, Or.inl ⟨by rfl, ?_⟩, by assumption, ?_⟩
              · (intro w hSw; (try dsimp only at hSw); go_simp; all_goals with_reducible rfl)
              try simp only [Act.put, List.setIfInBounds_toArray, List.set_cons_zero, List.set_cons_succ]
              refine C.tk_take (i := 11) (v := ?_) (by kernel_rfl) (by kernel_rfl) (by kernel_rfl) (fun oi hoi => ?_) rfl
              rotate_left
              simp only [List.getElem?_toArray, List.getElem?_cons_succ, List.getElem?_cons_zero] at hoi
              cases hoi
              refine ⟨fun _ _ _ h => h, Or.inl ⟨by rfl, ?_⟩, by assumption, ?_⟩
              · (intro w hSw; (try dsimp only at hSw); go_simp; all_goals with_reducible rfl)
              try simp only [Act.put, List.setIfInBounds_toArray, List.set_cons_zero, List.set_cons_succ]
              refine wpAnyH_ready (rs := [10]) (by kernel_rfl) (by simp) ?_
              refine AllReadyH.cons rfl (fun K hK => ?_) AllReadyH.nil
              rw [if_pos (by rfl)]
              go_simp
              go_at_call 15
              refine (ru_calls hT hH _ a0 a1 a2 a3 a4 A5 n5 c5 A6 n6 c6 s7 s8 s9 s10 AM ms.length cM AF cF fs (Kd.C_below HF.out (below_step HB9.out HD3.out)) HFS.out HFL.out none 0 0 AT ts.length cT).mono ?_
              rintro e u4 ⟨rfl, hb⟩
              have hS := hb
              have HY4 := Aside0.mk (blk_below HY3.out hS)
              have HZ4 := Aside0.mk (blk_below HZ3.out hS)
              have HD4 := Aside0.mk (below_step HD3.out hS)
              have hS4 : u4.cell? ⟨B9, 0, none⟩ = some (.int .u32 a0) ∧ u4.cell? ⟨B9, 1, none⟩ = some (.int .u32 a1) ∧ u4.cell? ⟨B9, 2, none⟩ = some (.int .u32 a2) ∧ u4.cell? ⟨B9, 3, none⟩ = some (.int .u32 a3) ∧ u4.cell? ⟨B9, 4, none⟩ = some (.int .u32 a4) ∧ u4.cell? ⟨B9, 5, none⟩ = some (.slice A5 n5 c5) ∧ u4.cell? ⟨B9, 6, none⟩ = some (.slice A6 n6 c6) ∧ u4.cell? ⟨B9, 7, none⟩ = some (.int .u32 s7) ∧ u4.cell? ⟨B9, 8, none⟩ = some (.int .u32 s8) ∧ u4.cell? ⟨B9, 9, none⟩ = some (.int .u32 s9) ∧ u4.cell? ⟨B9, 10, none⟩ = some (.int .u32 s10) ∧ u4.cell? ⟨B9, 11, none⟩ = some (.slice AM ms.length cM) ∧ u4.cell? ⟨B9, 12, none⟩ = some (.slice AF fs.length cF) ∧ u4.cell? ⟨B9, 13, none⟩ = some (.slice none 0 0) ∧ u4.cell? ⟨B9, 14, none⟩ = some (.slice AT ts.length cT) ∧ u4.cell? ⟨b3, 0, none⟩ = some (.int .u32 a0) ∧ u4.cell? ⟨b3, 1, none⟩ = some (.int .u32 a1) ∧ u4.cell? ⟨b3, 2, none⟩ = some (.int .u32 a2) ∧ u4.cell? ⟨b3, 3, none⟩ = some (.int .u32 a3) ∧ u4.cell? ⟨b3, 4, none⟩ = some (.int .u32 a4) ∧ u4.cell? ⟨b3, 5, none⟩ = some (.slice A5 n5 c5) ∧ u4.cell? ⟨b3, 6, none⟩ = some (.slice A6 n6 c6) ∧ u4.cell? ⟨b3, 7, none⟩ = some (.int .u32 s7) ∧ u4.cell? ⟨b3, 8, none⟩ = some (.int .u32 s8) ∧ u4.cell? ⟨b3, 9, none⟩ = some (.int .u32 s9) ∧ u4.cell? ⟨b3, 10, none⟩ = some (.int .u32 s10) ∧ u4.cell? ⟨b3, 11, none⟩ = some (.slice AM ms.length cM) := ⟨blk_cell HY4.out 0, blk_cell HY4.out 1, blk_cell HY4.out 2, blk_cell HY4.out 3, blk_cell HY4.out 4, blk_cell HY4.out 5, blk_cell HY4.out 6, blk_cell HY4.out 7, blk_cell HY4.out 8, blk_cell HY4.out 9, blk_cell HY4.out 10, blk_cell HY4.out 11, blk_cell HY4.out 12, blk_cell HY4.out 13, blk_cell HY4.out 14, blk_cell HZ4.out 0, blk_cell HZ4.out 1, blk_cell HZ4.out 2, blk_cell HZ4.out 3, blk_cell HZ4.out 4, blk_cell HZ4.out 5, blk_cell HZ4.out 6, blk_cell HZ4.out 7, blk_cell HZ4.out 8, blk_cell HZ4.out 9, blk_cell HZ4.out 10, blk_cell HZ4.out 11⟩
              clear hb hS
              go_wp2
              refine hK.out _ _ hS4 (fun hHeld => ?_)
              clear hK
              try simp only [Act.put, List.setIfInBounds_toArray, List.set_cons_zero, List.set_cons_succ]
              refine C.tk_take (i := 12) (v := ?_) (by kernel_rfl) (by kernel_rfl) (by kernel_rfl) (fun oi hoi => ?_) rfl
              rotate_left
              simp only [List.getElem?_toArray, List.getElem?_cons_succ, List.getElem?_cons_zero] at hoi
              cases hoi
              refine ⟨fun _ _ _ h => h, Or.inl ⟨by rfl, ?_⟩, by assumption, ?_⟩
              · (intro w hSw; (try dsimp only at hSw); go_simp; all_goals with_reducible rfl)
              try simp only [Act.put, List.setIfInBounds_toArray, List.set_cons_zero, List.set_cons_succ]
              refine C.tk_take (i := 13) (v := ?_) (by kernel_rfl) (by kernel_rfl) (by kernel_rfl) (fun oi hoi => ?_) rfl
              rotate_left
              simp only [List.getElem?_toArray, List.getElem?_cons_succ, List.getElem?_cons_zero] at hoi
              cases hoi
              refine ⟨fun _ _ _ h => h, Or.inl ⟨by rfl, ?_⟩, by assumption, ?_⟩
              · (intro w hSw; (try dsimp only at hSw); go_simp; all_goals with_reducible rfl)
              try simp only [Act.put, List.setIfInBounds_toArray, List.set_cons_zero, List.set_cons_succ]
              refine C.tk_take (i := 14) (v := ?_) (by kernel_rfl) (by kernel_rfl) (by kernel_rfl) (fun oi hoi => ?_) rfl
              rotate_left
              simp only [List.getElem?_toArray, List.getElem?_cons_succ, List.getElem?_cons_zero] at hoi
              cases hoi
              refine ⟨fun _ _ _ h => h, Or.inl ⟨by rfl, ?_⟩, by assumption, ?_⟩
              · (intro w hSw; (try dsimp only at hSw); go_simp; all_goals with_reducible rfl)
              try simp only [Act.put, List.setIfInBounds_toArray, List.set_cons_zero, List.set_cons_succ]
              refine wpAnyH_done (by kernel_rfl) ?_ _
              go_wp2
              go_ret
              exact ⟨by first | rfl | simp, below_step HB9.out HD4.out⟩
def pascalinelaw31_ReportPrograms.f (a0_0 a0_1 a0_2 a0_3 a0_4 : Int) (_l0_5 _l0_6 : List Int) (_a0_7 _a0_8 _a0_9 _a0_10 : Int) (l0_11 : List S49) (l1 : List Int) (l2 : List S46) : Option Bool :=
  if RpSmall a0_0 a0_1 a0_2 a0_3 a0_4 l0_11 l1 l2 ∧ (l0_11.length ≤ 4611686018427387904 ∧ l1.length ≤ 4611686018427387904 ∧ l2.length ≤ 4611686018427387904) then some true else none
theorem pascalinelaw31_ReportPrograms.calls (a0_0 a0_1 a0_2 a0_3 a0_4 : Int) (A0_5 : Option Addr) (c0_5 : Nat) (l0_5 : List Int) (A0_6 : Option Addr) (c0_6 : Nat) (l0_6 : List Int) (a0_7 a0_8 a0_9 a0_10 : Int) (A0_11 : Option Addr) (c0_11 : Nat) (l0_11 : List S49) (A1 : Option Addr) (c1 : Nat) (l1 : List Int) (A2 : Option Addr) (c2 : Nat) (l2 : List S46) (r : Bool) (w : World) (hr0_5 : Kd.C (Kd.int .u32) w A0_5 l0_5.length l0_5) (hc0_5 : l0_5.length ≤ c0_5) (hr0_6 : Kd.C (Kd.int .u32) w A0_6 l0_6.length l0_6) (hc0_6 : l0_6.length ≤ c0_6) (hr0_11 : Kd.C k49 w A0_11 l0_11.length l0_11) (hc0_11 : l0_11.length ≤ c0_11) (hr1 : Kd.C (Kd.int .i64) w A1 l1.length l1) (hc1 : l1.length ≤ c1) (hr2 : Kd.C k46 w A2 l2.length l2) (hc2 : l2.length ≤ c2) (h : pascalinelaw31_ReportPrograms.f a0_0 a0_1 a0_2 a0_3 a0_4 l0_5 l0_6 a0_7 a0_8 a0_9 a0_10 l0_11 l1 l2 = some r) :
    Calls Try.prog 4 #[.agg #[.int .u32 a0_0, .int .u32 a0_1, .int .u32 a0_2, .int .u32 a0_3, .int .u32 a0_4, .slice A0_5 l0_5.length c0_5, .slice A0_6 l0_6.length c0_6, .int .u32 a0_7, .int .u32 a0_8, .int .u32 a0_9, .int .u32 a0_10, .slice A0_11 l0_11.length c0_11], .slice A1 l1.length c1, .slice A2 l2.length c2] w fun e w' => e = .returned (.bool r) ∧ Below w.heap.size w w' := by
  unfold pascalinelaw31_ReportPrograms.f at h
  by_cases hs : RpSmall a0_0 a0_1 a0_2 a0_3 a0_4 l0_11 l1 l2 ∧ (l0_11.length ≤ 4611686018427387904 ∧ l1.length ≤ 4611686018427387904 ∧ l2.length ≤ 4611686018427387904)
  case neg => rw [if_neg hs] at h; cases h
  rw [if_pos hs] at h
  cases Option.some.inj h
  exact rl_calls rt_T rt_H w a0_0 a0_1 a0_2 a0_3 a0_4 A0_5 l0_5.length c0_5 A0_6 l0_6.length c0_6 a0_7 a0_8 a0_9 a0_10 A0_11 c0_11 l0_11 hr0_11 A1 c1 l1 hr1 A2 c2 l2 hr2 hs.1 hs.2

end Go.Proofs.Ytmebogkhdbbbbaa.P

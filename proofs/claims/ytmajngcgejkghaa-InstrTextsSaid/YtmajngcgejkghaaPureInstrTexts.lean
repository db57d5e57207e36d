/- InstrTexts: any instruction has the text that the document says, or the error; any fields' texts are an instruction, or none; an instruction's own fields lead back to it. For every instruction (five numbers of type int), every operation and every list of strings; no condition. -/
import Derived.Test.YtmajngcgejkghaaPx13
import Derived.Test.YtmajngcgejkghaaPx38
import Derived.Test.YtmajngcgejkghaaPx43
import Derived.Test.YtmajngcgejkghaaQAwake02
import Derived.Test.YtmajngcgejkghaaQIFill2
import Derived.Test.YtmajngcgejkghaaPsInstrTexts
namespace Go.Proofs.Ytmajngcgejkghaa.Pure
set_option linter.unusedSimpArgs false
set_option linter.unusedVariables false
open Go Go.RowKit Go.Proofs.Ytmajngcgejkghaa.P Go.Proofs.Ytmajngcgejkghaa.Q Go.Proofs.Ytmajngcgejkghaa.C Go.Proofs.YtmajngcgejkghaaW.PrintWords

theorem i64_of {n : Int} (h : (Lit.int .i64 n).wf = true) : I64 n := by
  have h2 := h
  simp [Lit.wf, IntKind.min, IntKind.max, IntKind.bits, IntKind.signed] at h2
  unfold I64
  omega
theorem pn_tx (n : Int) (h : -2147483648 ≤ n ∧ n ≤ 2147483647) : pn (tx n) = (n, true) := by
  unfold pn tx
  rw [bytesOf_nums _ (text_bytes n), parse_text n (by omega), if_pos h]
theorem rn_rx (n : Int) (h : -2147483648 ≤ n ∧ n ≤ 2147483647) : rn (rx n) = (n, true) := by
  have e : bytesOf (rx n) = 114 :: bytesOf (tx n) := by
    unfold rx; rw [bytesOf_append]; rfl
  unfold rn
  rw [e, if_pos (List.head?_cons)]
  exact pn_tx n h
theorem fv1 (op n : Int) (h : 0 ≤ n ∧ n ≤ 15) : fv 1 op (rx n) = (n, true) ∧ fok 1 op (rx n) = true := by
  have e : fv 1 op (rx n) = (n, true) := by
    unfold fv; rw [if_neg (by simp [fi_num])]; exact rn_rx n (by omega)
  refine ⟨e, ?_⟩
  unfold fok; rw [e]; simp; exact .inr ⟨h.1, by omega⟩
theorem fv3 (op n : Int) (h : 0 ≤ n ∧ n ≤ 15) : fv 3 op (rx n) = (n, true) ∧ fok 3 op (rx n) = true := by
  have e : fv 3 op (rx n) = (n, true) := by
    unfold fv; rw [if_neg (by simp [fi_num])]; exact rn_rx n (by omega)
  refine ⟨e, ?_⟩
  unfold fok; rw [e]; simp; exact .inr ⟨h.1, by omega⟩
theorem fv2 (op n : Int) (h : 0 ≤ n ∧ n ≤ 15) : fv 2 op (bx op n) = (n, true) ∧ fok 2 op (bx op n) = true := by
  by_cases ho : op = 26
  · have e : fv 2 op (bx op n) = (n, true) := by
      unfold fv bx; rw [if_pos (by subst ho; rfl), if_pos ho]; exact pn_tx n (by omega)
    refine ⟨e, ?_⟩
    unfold fok; rw [e]; simp; exact .inr ⟨h.1, by omega⟩
  · have e : fv 2 op (bx op n) = (n, true) := by
      unfold fv bx; rw [if_neg (by simp [fi_num, ho]), if_neg ho]; exact rn_rx n (by omega)
    refine ⟨e, ?_⟩
    unfold fok; rw [e]; simp; exact .inr ⟨h.1, by omega⟩
theorem fv4 (op n : Int) (h : -2147483648 ≤ n ∧ n ≤ 2147483647) : fv 4 op (tx n) = (n, true) ∧ fok 4 op (tx n) = true := by
  have e : fv 4 op (tx n) = (n, true) := by
    unfold fv; rw [if_pos (num4 op)]; exact pn_tx n h
  exact ⟨e, by rw [fok_num 4 op _ (num4 op), e]⟩
theorem low_high (s : Int) : -8388608 ≤ low s ∧ high s ≤ 8388607 := by
  unfold low high; constructor
  · repeat' split
    all_goals omega
  · repeat' split
    all_goals omega
theorem fill_fields (k : Nat) (op a b c i : Int) (hk : 1000 < k) (h : checkOf op a b c i = 0) : instr_Fill.f k op (fieldsOf op a b c i) = some (op, a, b, c, i, true) := by
  have hE : ends op (a, b, c, i) = (op, a, b, c, i, true) := by
    unfold ends; simp [h]
  have ⟨h0, h1⟩ := (checkOf_ok op a b c i).1 h
  have t1 := rx_size a
  have t2 := bx_size op b
  have t3 := rx_size c
  have t4 := tx_size i
  have lh := low_high (shapeOf op)
  unfold instr_Fill.f fieldsOf
  rw [shape_eq k op (by omega), Option.bind_some]
  have hr := shapeOf_range op
  generalize shapeOf op = s at h0 h1 hr lh
  unfold okAt at h1
  obtain ⟨ha, hb, hc, za, zb, zc, hl⟩ := h1
  have f1 := fv1 op a ha
  have f2 := fv2 op b hb
  have f3 := fv3 op c hc
  have f4 := fv4 op i (by omega)
  rcases shape_9 s hr with rfl | rfl | rfl | rfl | rfl | rfl | rfl | rfl | rfl | rfl
  · omega
  · have e1 := za (by omega); have e2 := zb (by omega); have e3 := zc (by omega)
    have e4 : i = 0 := by have x1 : low 0 = 0 := rfl; have x2 : high 0 = 0 := rfl; omega
    subst e1 e2 e3 e4
    show instr_Fill.rest k op [] [] = _
    rw [code0 k op (by omega), ← hE]; rfl
  · have e2 := zb (by omega); have e3 := zc (by omega)
    subst e2 e3
    show instr_Fill.rest k op [rx a, tx i] [1, 4] = _
    rw [code2 k op _ _ 1 4 (by omega) (by omega), f1.2, f4.2, f1.1, f4.1, ← hE]; rfl
  · have e2 := zb (by omega); have e3 := zc (by omega)
    subst e2 e3
    show instr_Fill.rest k op [rx a, tx i] [1, 4] = _
    rw [code2 k op _ _ 1 4 (by omega) (by omega), f1.2, f4.2, f1.1, f4.1, ← hE]; rfl
  · have e3 := zc (by omega)
    subst e3
    show instr_Fill.rest k op [rx a, bx op b, tx i] [1, 2, 4] = _
    rw [code3 k op _ _ _ 1 2 4 (by omega) (by omega) (by omega), f1.2, f2.2, f4.2, f1.1, f2.1, f4.1, ← hE]; rfl
  · have e3 := zc (by omega)
    subst e3
    show instr_Fill.rest k op [rx a, bx op b, tx i] [1, 2, 4] = _
    rw [code3 k op _ _ _ 1 2 4 (by omega) (by omega) (by omega), f1.2, f2.2, f4.2, f1.1, f2.1, f4.1, ← hE]; rfl
  · have e4 : i = 0 := by have x1 : low 5 = 0 := rfl; have x2 : high 5 = 0 := rfl; omega
    subst e4
    show instr_Fill.rest k op [rx a, bx op b, rx c] [1, 2, 3] = _
    rw [code3 k op _ _ _ 1 2 3 (by omega) (by omega) (by omega), f1.2, f2.2, f3.2, f1.1, f2.1, f3.1, ← hE]; rfl
  · have e2 := zb (by omega); have e3 := zc (by omega)
    have e4 : i = 0 := by have x1 : low 6 = 0 := rfl; have x2 : high 6 = 0 := rfl; omega
    subst e2 e3 e4
    show instr_Fill.rest k op [rx a] [1] = _
    rw [code1 k op _ 1 (by omega), f1.2, f1.1, ← hE]; rfl
  · have e1 := za (by omega); have e2 := zb (by omega); have e3 := zc (by omega)
    subst e1 e2 e3
    show instr_Fill.rest k op [tx i] [4] = _
    rw [code1 k op _ 4 (by omega), f4.2, f4.1, ← hE]; rfl
  · have e1 := za (by omega); have e2 := zb (by omega); have e3 := zc (by omega)
    subst e1 e2 e3
    show instr_Fill.rest k op [tx i] [4] = _
    rw [code1 k op _ 4 (by omega), f4.2, f4.1, ← hE]; rfl
theorem texts_j1 (k : Nat) (hk : 1100 < k) (op a b c i : Int) (ha : I64 a) (hb : I64 b) (hc : I64 c) (hi : I64 i) : pascalinelaw02_InstrTexts.j1 (k + 1) (checkOf op a b c i) false op a b c i = some true := by
  rw [pascalinelaw02_InstrTexts.j1, if_neg (by simp)]
  by_cases h : checkOf op a b c i = 0
  · rw [if_pos h]
    have h1 := ((checkOf_ok op a b c i).1 h).1
    unfold pascalinelaw02_Ref.f
    rw [Option.bind_some]
    rw [rfields_eq k (by omega) op a b c i (by omega) ha hb hc hi, Option.bind_some, fill_fields k op a b c i (by omega) h, Option.bind_some]
    simp
  · rw [if_neg h]
theorem sizes_le (l : List ByteArray) : ∃ m, ∀ x ∈ l, x.size ≤ m := by
  induction l with
  | nil => exact ⟨0, by simp⟩
  | cons y t ih =>
    obtain ⟨m, hm⟩ := ih
    refine ⟨m + y.size, fun x hx => ?_⟩
    rcases List.mem_cons.1 hx with rfl | h
    · omega
    · have := hm x h; omega
theorem InstrTexts : pascalinelaw02_InstrTexts.Pure := by
  intro op a b c i o l w1 w2 w3 w4 w5 w6 _ _
  obtain ⟨m, hm⟩ := sizes_le l
  have r := fun {n : Int} (h : (Lit.int .i64 n).wf = true) => (show I64 n from i64_of h)
  have ha := r w2; have hb := r w3; have hc := r w4; have hi := r w5
  refine ⟨m + 2000, ?_⟩
  unfold pascalinelaw02_InstrTexts.f
  rw [instr_awake (m + 2000) (by omega), Option.bind_some, if_pos rfl]
  by_cases hl : (l.length : Int) > 20
  · rw [if_pos hl]
  · rw [if_neg hl, text_at (m + 2000) (by omega) op a b c i ha hb hc hi, Option.bind_some]
    unfold pascalinelaw02_Ref.f
    rw [Option.bind_some, rtext_at (m + 2000) (by omega) op a b c i ha hb hc hi, Option.bind_some, if_pos rfl]
    have e2 : (itextOf op a b c i).2 = checkOf op a b c i := by
      unfold itextOf; split
      · rename_i h; rw [h]
      · rfl
    rw [e2, show (checkOf op a b c i != checkOf op a b c i) = false from by simp]
    rw [show m + 2000 = (m + 1999) + 1 from by omega, pascalinelaw02_InstrTexts.j0, if_neg (by simp)]
    obtain ⟨x, y, hx, hy, hs1, hs2⟩ := fill_same (m + 1999) o l (by omega) (fun x hx => by have := hm x hx; omega)
    rw [hx, hy, Option.bind_some, Option.bind_some]
    have J := texts_j1 (m + 1998) (by omega) op a b c i ha hb hc hi
    rw [show m + 1998 + 1 = m + 1999 from by omega] at J
    rw [if_neg (by rw [hs1]; simp)]
    by_cases ht : x.2.2.2.2.2 = true
    · rw [if_pos ht]
      have := hs2 ht
      subst this
      unfold pascalinelaw02_Ref.f
      rw [Option.bind_some]
      simp only [beq_self_eq_true, Bool.not_true, Bool.or_false]
      exact J
    · rw [if_neg ht]
      exact J
end Go.Proofs.Ytmajngcgejkghaa.Pure

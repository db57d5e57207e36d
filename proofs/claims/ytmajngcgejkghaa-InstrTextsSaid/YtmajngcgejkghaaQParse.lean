/- What the printed functions of word and of its reference answer: how numbers are read. -/
import Derived.Test.YtmajngcgejkghaaPx30
import Derived.Test.YtmajngcgejkghaaPx38
import Derived.Test.YtmajngcgejkghaaQTx
namespace Go.Proofs.Ytmajngcgejkghaa.Q
open Go Go.RowKit Go.Proofs.Ytmajngcgejkghaa.P Go.Proofs.Ytmajngcgejkghaa.C Go.Proofs.YtmajngcgejkghaaW.PrintWords Go.Proofs.YtmajngcgejkghaaW.PrintLast Go.Proofs.YtmajngcgejkghaaW.PrintMore

def valFrom (n : Int) (L : List Int) : Int := L.foldl (fun n c => n * 10 + (c - 48)) n
theorem val_from (L : List Int) : val L = valFrom 0 L := rfl
/-- What both parsers do when all digits are read: the range. -/
def fin (m : Bool) (v : Int) : Int × Bool := if -2147483648 ≤ signed m v ∧ signed m v ≤ 2147483647 then (signed m v, true) else (0, false)
theorem pow10 (j : Nat) (h : j ≤ 11) : 1 ≤ (10 : Int) ^ j ∧ (10 : Int) ^ j ≤ 100000000000 := by
  have h1 : (10 : Nat) ^ j ≤ 10 ^ 11 := Nat.pow_le_pow_right (by omega) h
  have h2 : 1 ≤ (10 : Nat) ^ j := Nat.one_le_pow _ _ (by omega)
  have h3 : ((10 : Nat) ^ j : Int) = (10 : Int) ^ j := by norm_cast
  have h4 : (10 : Nat) ^ 11 = 100000000000 := by decide
  omega
theorem isDig_false (c : Int) (h : ¬ (48 ≤ c ∧ c ≤ 57)) : isDig c = false := by
  cases e : isDig c with
  | false => rfl
  | true => exact absurd ((isDig_iff c).1 e) h
theorem parse_loop (s : ByteArray) (m : Bool) (hl : s.size ≤ 10) (d : Nat) : ∀ (k j : Nat) (n : Int), s.size - j = d → j ≤ s.size → d < k → 0 ≤ n → n < 10 ^ j →
    word_Parse.l0 k s m n (s.size : Int) (j : Int) = some (if ((bytesOf s).drop j).all isDig = true then fin m (valFrom n ((bytesOf s).drop j)) else (0, false)) := by
  induction d with
  | zero =>
    intro k j n hd hj hk h0 h1
    obtain ⟨k, rfl⟩ : ∃ m, k = m + 1 := ⟨k - 1, by omega⟩
    have hp := pow10 j (by omega)
    have e : (bytesOf s).drop j = [] := List.drop_eq_nil_of_le (by rw [bytesOf_length]; omega)
    rw [e]
    simp only [word_Parse.l0]
    rw [if_neg (by omega)]
    simp only [List.all_nil, if_true, valFrom, List.foldl_nil, fin, signed]
    cases m with
    | true =>
      simp only [if_true]
      rw [wrap64_in (n := -n) (by omega)]
      by_cases hr : -2147483648 ≤ -n ∧ -n ≤ 2147483647
      · rw [if_neg (by omega), if_neg (by omega), if_pos hr, wrap32_in hr]
      · rw [if_neg hr]
        split
        · rfl
        · rw [if_pos (by omega)]
    | false =>
      simp only [Bool.false_eq_true, if_false]
      by_cases hr : -2147483648 ≤ n ∧ n ≤ 2147483647
      · rw [if_neg (by omega), if_neg (by omega), if_pos hr, wrap32_in hr]
      · rw [if_neg hr]
        split
        · rfl
        · rw [if_pos (by omega)]
  | succ d ih =>
    intro k j n hd hj hk h0 h1
    obtain ⟨k, rfl⟩ : ∃ m, k = m + 1 := ⟨k - 1, by omega⟩
    have hlt : j < (bytesOf s).length := by rw [bytesOf_length]; omega
    have hr := bytesOf_range s _ (List.getElem_mem hlt)
    have hp := pow10 j (by omega)
    have hb := bt_get s j hlt
    rw [List.drop_eq_getElem_cons hlt]
    simp only [word_Parse.l0]
    rw [if_pos (by omega), if_pos (by omega), if_pos (by omega), hb]
    by_cases hc : 48 ≤ (bytesOf s)[j] ∧ (bytesOf s)[j] ≤ 57
    · rw [if_neg (by omega), if_neg (by omega), List.all_cons, (isDig_iff _).2 hc, Bool.true_and]
      rw [wrap64_in (n := n * 10) (by omega), show ((bytesOf s)[j] - 48) % 256 = (bytesOf s)[j] - 48 by omega, wrap64_in (n := n * 10 + ((bytesOf s)[j] - 48)) (by omega), wrap64_in (n := (j : Int) + 1) (by omega)]
      exact ih k (j + 1) _ (by omega) (by omega) (by omega) (by omega) (by rw [Int.pow_succ]; omega)
    · rw [List.all_cons, isDig_false _ hc, Bool.false_and]
      simp only [Bool.false_eq_true, if_false]
      split
      · rfl
      · rw [if_pos (by omega)]
theorem parse_j2 (k : Nat) (s : ByteArray) (m b : Bool) (hl : b = false → s.size ≤ 10) (hk : s.size + 1 < k) :
    word_Parse.j2 k s m b = some (if b = true then (0, false) else if (bytesOf s).all isDig = true then fin m (val (bytesOf s)) else (0, false)) := by
  obtain ⟨k, rfl⟩ : ∃ m, k = m + 1 := ⟨k - 1, by omega⟩
  simp only [word_Parse.j2]
  cases b with
  | true => simp
  | false =>
    simp only [Bool.false_eq_true, if_false]
    have := parse_loop s m (hl rfl) s.size k 0 0 (by omega) (by omega) (by omega) (by omega) (by decide)
    rw [List.drop_zero] at this
    exact this
theorem parse_j2t (k : Nat) (s : ByteArray) (m : Bool) (hk : s.size + 1 < k) : word_Parse.j2 k s m true = some (0, false) := by
  rw [parse_j2 k s m true (by simp) hk, if_pos rfl]
theorem parse_j2f (k : Nat) (s : ByteArray) (m : Bool) (hl : s.size ≤ 10) (hk : s.size + 1 < k) :
    word_Parse.j2 k s m false = some (if (bytesOf s).all isDig = true then fin m (val (bytesOf s)) else (0, false)) := by
  rw [parse_j2 k s m false (fun _ => hl) hk, if_neg (by simp)]
theorem toList_nil (s : ByteArray) : s.toList = ([] : List UInt8) ↔ bytesOf s = [] := by
  rw [toList_data]; unfold bytesOf; simp
theorem toList_zero (s : ByteArray) : s.toList = ([48] : List UInt8) ↔ bytesOf s = [48] := by
  have := toList_lit s [48] (by simp)
  rw [show (strOfNums [48]).toList = ([48] : List UInt8) by rw [toList_data]; rfl] at this
  exact this
/-- Behind the sign: the form, the digits, the range. -/
theorem parse_j1 (k : Nat) (s : ByteArray) (m : Bool) (hk : s.size + 2 < k) :
    word_Parse.j1 k s m = some (if formOk m (bytesOf s) then (if (bytesOf s).all isDig = true then fin m (val (bytesOf s)) else (0, false)) else (0, false)) := by
  obtain ⟨k, rfl⟩ : ∃ m, k = m + 1 := ⟨k - 1, by omega⟩
  have hL := bytesOf_length s
  simp only [word_Parse.j1]
  by_cases h1 : s.toList = ([] : List UInt8)
  · have e := (toList_nil s).1 h1
    rw [if_pos h1, parse_j2t k s m (by omega), if_neg (fun f => f.1 e)]
  · have e1 : bytesOf s ≠ [] := fun h => h1 ((toList_nil s).2 h)
    rw [if_neg h1]
    by_cases h2 : (s.size : Int) > 10
    · rw [if_pos h2, parse_j2t k s m (by omega), if_neg (fun f => by have := f.2.1; omega)]
    · rw [if_neg h2]
      have hl : s.size ≤ 10 := by omega
      by_cases h3 : (s.size : Int) > 1
      · have hlt : 0 < (bytesOf s).length := by omega
        have hb : bt s 0 = (bytesOf s)[0] := bt_get s 0 hlt
        have hh : (bytesOf s).head? = some (bytesOf s)[0] := by rw [List.head?_eq_getElem?, List.getElem?_eq_getElem hlt]
        rw [if_pos h3, if_pos (by omega), hb]
        have n48 : bytesOf s ≠ [48] := fun e => by rw [e] at hL; simp at hL; omega
        by_cases h4 : (bytesOf s)[0] = 48
        · rw [if_pos h4, parse_j2t k s m (by omega), if_neg (fun f => f.2.2.1 (by omega) (by rw [hh, h4]))]
        · have hf : formOk m (bytesOf s) := ⟨e1, by omega, fun _ e => h4 (by rw [hh] at e; injection e), fun _ => n48⟩
          rw [if_neg h4, if_pos hf]
          have n48' : (s.toList == ([48] : List UInt8)) = false := beq_eq_false_iff_ne.2 (fun e => n48 ((toList_zero s).1 e))
          cases m with
          | true => rw [if_pos rfl, n48', parse_j2f k s true hl (by omega)]
          | false => rw [if_neg (by simp), parse_j2f k s false hl (by omega)]
      · rw [if_neg h3]
        cases m with
        | true =>
          rw [if_pos rfl]
          by_cases h5 : bytesOf s = [48]
          · rw [show (s.toList == ([48] : List UInt8)) = true from beq_iff_eq.2 ((toList_zero s).2 h5), parse_j2t k s true (by omega), if_neg (fun f => f.2.2.2 rfl h5)]
          · rw [show (s.toList == ([48] : List UInt8)) = false from beq_eq_false_iff_ne.2 (fun e => h5 ((toList_zero s).1 e)), parse_j2f k s true hl (by omega), if_pos (show formOk true (bytesOf s) from ⟨e1, by omega, fun h => by omega, fun _ => h5⟩)]
        | false =>
          rw [if_neg (by simp), parse_j2f k s false hl (by omega), if_pos (show formOk false (bytesOf s) from ⟨e1, by omega, fun h => by omega, fun h => by cases h⟩)]
theorem parseOf_alt (bs : List Int) : parseOf bs = if formOk (minus bs) (body bs) then (if (body bs).all isDig = true then fin (minus bs) (val (body bs)) else (0, false)) else (0, false) := by
  unfold parseOf fin
  by_cases h1 : formOk (minus bs) (body bs)
  · rw [if_pos h1]
    by_cases h2 : (body bs).all isDig = true
    · rw [if_pos h2]
      by_cases h3 : -2147483648 ≤ signed (minus bs) (val (body bs)) ∧ signed (minus bs) (val (body bs)) ≤ 2147483647
      · rw [if_pos ⟨h1, h2, h3⟩, if_pos h3]
      · rw [if_neg (fun e => h3 e.2.2), if_neg h3]
    · rw [if_neg (fun e => h2 e.2.1), if_neg h2]
  · rw [if_neg (fun e => h1 e.1), if_neg h1]
theorem minus_bt (s : ByteArray) (h : 0 < s.size) : (bt s 0 == 45) = minus (bytesOf s) := by
  have hlt : 0 < (bytesOf s).length := by rw [bytesOf_length]; exact h
  have hb : bt s 0 = (bytesOf s)[0] := bt_get s 0 hlt
  rw [hb]
  unfold minus
  rw [List.head?_eq_getElem?, List.getElem?_eq_getElem hlt]
  rfl
theorem word_parse_eq (k : Nat) (s : ByteArray) (hk : s.size + 4 < k) : word_Parse.f k s = some (parseOf (bytesOf s)) := by
  rw [parseOf_alt]
  unfold word_Parse.f
  have hL := bytesOf_length s
  obtain ⟨k, rfl⟩ : ∃ m, k = m + 1 := ⟨k - 1, by omega⟩
  by_cases h : (s.size : Int) > 0
  · rw [if_pos h, if_pos h, minus_bt s (by omega)]
    cases hm : minus (bytesOf s) with
    | true =>
      have hsz : (s.extract 1 s.size).size = s.size - 1 := by rw [ByteArray.size_extract]; omega
      simp only [word_Parse.j0, if_true]
      rw [if_pos (by omega), parse_j1 k _ true (by omega), bytesOf_tail]
      unfold body
      rw [hm]; rfl
    | false =>
      simp only [word_Parse.j0, Bool.false_eq_true, if_false]
      rw [parse_j1 k _ false (by omega)]
      unfold body
      rw [hm]; rfl
  · have e : bytesOf s = [] := List.eq_nil_of_length_eq_zero (by omega)
    rw [if_neg h]
    simp only [word_Parse.j0, Bool.false_eq_true, if_false]
    rw [parse_j1 k _ false (by omega), e]
    rfl
/-- What the reference does when all digits are read: the range, and whether the text is the number's. -/
def rfin (bs : List Int) (v : Int) : Int × Bool := if (-2147483648 ≤ signed (minus bs) v ∧ signed (minus bs) v ≤ 2147483647) ∧ textOf (signed (minus bs) v) = bs then (signed (minus bs) v, true) else (0, false)
theorem rfin_def (bs : List Int) (v n : Int) (hn : signed (minus bs) v = n) : rfin bs v = if (-2147483648 ≤ n ∧ n ≤ 2147483647) ∧ textOf n = bs then (n, true) else (0, false) := by
  subst hn; rfl
theorem rparse_loop (s : ByteArray) (h1 : 0 < s.size) (hl : s.size ≤ 11) (d : Nat) : ∀ (k j : Nat) (n : Int), s.size - j = d → j ≤ s.size → 2 * d < k → 0 ≤ n → n < 10 ^ j → (j = 0 → minus (bytesOf s) = false) →
    pascalineref01_Parse.l0 k s n (j : Int) = some (if ((bytesOf s).drop j).all isDig = true then rfin (bytesOf s) (valFrom n ((bytesOf s).drop j)) else (0, false)) := by
  induction d with
  | zero =>
    intro k j n hd hj hk h0 h2 _
    obtain ⟨k, rfl⟩ : ∃ m, k = m + 1 := ⟨k - 1, by omega⟩
    have hp := pow10 j (by omega)
    have e : (bytesOf s).drop j = [] := List.drop_eq_nil_of_le (by rw [bytesOf_length]; omega)
    rw [e]
    simp only [pascalineref01_Parse.l0]
    rw [if_neg (by omega), if_pos (by omega)]
    have hm := minus_bt s h1
    have hT : ∀ n : Int, ((strOfNums (textOf n)).toList = s.toList) ↔ textOf n = bytesOf s := fun n => by
      rw [toList_inj]
      constructor
      · intro e; rw [← e, bytesOf_nums _ (text_bytes n)]
      · intro e; rw [e, nums_bytesOf]
    show _ = some (rfin (bytesOf s) n)
    cases hb : minus (bytesOf s) with
    | true =>
      rw [hb] at hm
      rw [if_pos (beq_iff_eq.1 hm), rfin_def (bytesOf s) n (-n) (by rw [hb]; rfl), wrap64_in (n := -n) (by omega)]
      by_cases hr : -2147483648 ≤ -n ∧ -n ≤ 2147483647
      · rw [if_neg (by omega), if_neg (by omega), ref_text_eq _ (by omega)]
        simp only [Option.bind_some]
        by_cases ht : textOf (-n) = bytesOf s
        · rw [if_pos ((hT _).2 ht), if_pos ⟨hr, ht⟩, wrap32_in hr]
        · rw [if_neg (fun e => ht ((hT _).1 e)), if_neg (fun e => ht e.2)]
      · rw [if_neg (show ¬ ((-2147483648 ≤ -n ∧ -n ≤ 2147483647) ∧ textOf (-n) = bytesOf s) from fun e => hr e.1)]
        split
        · rfl
        · rw [if_pos (by omega)]
    | false =>
      rw [hb] at hm
      rw [if_neg (beq_eq_false_iff_ne.1 hm), rfin_def (bytesOf s) n n (by rw [hb]; rfl)]
      by_cases hr : -2147483648 ≤ n ∧ n ≤ 2147483647
      · rw [if_neg (by omega), if_neg (by omega), ref_text_eq _ (by omega)]
        simp only [Option.bind_some]
        by_cases ht : textOf n = bytesOf s
        · rw [if_pos ((hT _).2 ht), if_pos ⟨hr, ht⟩, wrap32_in hr]
        · rw [if_neg (fun e => ht ((hT _).1 e)), if_neg (fun e => ht e.2)]
      · rw [if_neg (show ¬ ((-2147483648 ≤ n ∧ n ≤ 2147483647) ∧ textOf n = bytesOf s) from fun e => hr e.1)]
        split
        · rfl
        · rw [if_pos (by omega)]
  | succ d ih =>
    intro k j n hd hj hk h0 h2 h3
    obtain ⟨k, rfl⟩ : ∃ m, k = m + 2 := ⟨k - 2, by omega⟩
    have hlt : j < (bytesOf s).length := by rw [bytesOf_length]; omega
    have hr := bytesOf_range s _ (List.getElem_mem hlt)
    have hp := pow10 j (by omega)
    have hb := bt_get s j hlt
    have hj2 : pascalineref01_Parse.l0 (k + 2) s n (j : Int) = pascalineref01_Parse.j2 (k + 1) s n (j : Int) false := by
      rw [show k + 2 = (k + 1) + 1 from rfl, pascalineref01_Parse.l0, if_pos (by omega)]
      by_cases hj0 : j = 0
      · subst hj0
        rw [if_pos (show ((0 : Nat) : Int) = 0 from rfl), if_pos (by omega), minus_bt s h1, h3 rfl]
      · rw [if_neg (by omega)]
    rw [hj2, List.drop_eq_getElem_cons hlt]
    simp only [pascalineref01_Parse.j2]
    rw [if_neg (by simp), if_pos (by omega), if_pos (by omega), hb]
    by_cases hc : 48 ≤ (bytesOf s)[j] ∧ (bytesOf s)[j] ≤ 57
    · rw [if_neg (by omega), if_neg (by omega), List.all_cons, (isDig_iff _).2 hc, Bool.true_and]
      rw [wrap64_in (n := n * 10) (by omega), show ((bytesOf s)[j] - 48) % 256 = (bytesOf s)[j] - 48 by omega, wrap64_in (n := n * 10 + ((bytesOf s)[j] - 48)) (by omega), wrap64_in (n := (j : Int) + 1) (by omega)]
      exact ih k (j + 1) _ (by omega) (by omega) (by omega) (by omega) (by rw [Int.pow_succ]; omega) (by omega)
    · rw [List.all_cons, isDig_false _ hc, Bool.false_and]
      simp only [Bool.false_eq_true, if_false]
      split
      · rfl
      · rw [if_pos (by omega)]
theorem rfin_eq (bs : List Int) (h : (body bs).all isDig = true) : rfin bs (val (body bs)) = parseOf bs := by
  unfold rfin parseOf
  by_cases hr : -2147483648 ≤ signed (minus bs) (val (body bs)) ∧ signed (minus bs) (val (body bs)) ≤ 2147483647
  · have := text_iff bs h hr
    by_cases hf : formOk (minus bs) (body bs)
    · rw [if_pos ⟨hr, this.2 hf⟩, if_pos ⟨hf, h, hr⟩]
    · rw [if_neg (fun e => hf (this.1 e.2)), if_neg (fun e => hf e.1)]
  · rw [if_neg (fun e => hr e.1), if_neg (fun e => hr e.2.2)]
theorem parseOf_nodig (bs : List Int) (h : ¬ (body bs).all isDig = true) : parseOf bs = (0, false) := by
  unfold parseOf; rw [if_neg (fun e => h e.2.1)]
theorem ref_parse_eq (k : Nat) (s : ByteArray) (hk : 30 < k) : pascalineref01_Parse.f k s = some (parseOf (bytesOf s)) := by
  unfold pascalineref01_Parse.f
  have hL := bytesOf_length s
  obtain ⟨k, rfl⟩ : ∃ m, k = m + 3 := ⟨k - 3, by omega⟩
  by_cases h1 : (s.size : Int) < 1
  · have e : bytesOf s = [] := List.eq_nil_of_length_eq_zero (by omega)
    rw [if_pos h1, show k + 3 = (k + 2) + 1 from rfl, pascalineref01_Parse.j0, if_pos rfl, e]; rfl
  · rw [if_neg h1]
    by_cases h2 : (s.size : Int) > 11
    · rw [decide_eq_true h2, show k + 3 = (k + 2) + 1 from rfl, pascalineref01_Parse.j0, if_pos rfl]
      unfold parseOf
      rw [if_neg]
      rintro ⟨⟨_, h, _⟩, _⟩
      unfold body at h
      split at h
      · rw [List.length_tail] at h; omega
      · omega
    · rw [decide_eq_false h2, show k + 3 = (k + 2) + 1 from rfl, pascalineref01_Parse.j0, if_neg (by simp)]
      cases hm : minus (bytesOf s) with
      | false =>
        have hbody : body (bytesOf s) = bytesOf s := by unfold body; rw [hm]; rfl
        have := rparse_loop s (by omega) (by omega) s.size (k + 2) 0 0 (by omega) (by omega) (by omega) (by omega) (by decide) (fun _ => hm)
        rw [show ((0 : Nat) : Int) = 0 from rfl, List.drop_zero] at this
        rw [this]
        by_cases hd : (bytesOf s).all isDig = true
        · rw [if_pos hd, ← val_from]
          have h := rfin_eq (bytesOf s) (by rw [hbody]; exact hd)
          rw [hbody] at h
          rw [h]
        · rw [if_neg hd, parseOf_nodig _ (by rw [hbody]; exact hd)]
      | true =>
        have hbody : body (bytesOf s) = (bytesOf s).drop 1 := by unfold body; rw [hm, List.drop_one]; rfl
        have h0 : pascalineref01_Parse.l0 (k + 2) s 0 0 = pascalineref01_Parse.l0 k s 0 1 := by
          rw [show k + 2 = (k + 1) + 1 from rfl, pascalineref01_Parse.l0, if_pos (by omega), if_pos rfl, if_pos (by omega), minus_bt s (by omega), hm, pascalineref01_Parse.j2, if_pos rfl, wrap64_in (by omega)]
          rfl
        rw [h0]
        have := rparse_loop s (by omega) (by omega) (s.size - 1) k 1 0 (by omega) (by omega) (by omega) (by omega) (by decide) (fun h => by cases h)
        rw [show ((1 : Nat) : Int) = 1 from rfl] at this
        rw [this]
        by_cases hd : ((bytesOf s).drop 1).all isDig = true
        · rw [if_pos hd, ← val_from]
          have h := rfin_eq (bytesOf s) (by rw [hbody]; exact hd)
          rw [hbody] at h
          rw [h]
        · rw [if_neg hd, parseOf_nodig _ (by rw [hbody]; exact hd)]

/-! ### Reading a word -/
end Go.Proofs.Ytmajngcgejkghaa.Q

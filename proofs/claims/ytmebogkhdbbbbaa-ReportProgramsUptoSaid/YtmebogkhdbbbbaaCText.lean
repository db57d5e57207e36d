/- Numbers' texts read again: what the parsers answer, in plain words over lists of bytes. No program in sight. -/
import Derived.Test.YtmebogkhdbbbbaaCDigs
import Derived.Test.YtmebogkhdbbbbaaCWord
namespace Go.Proofs.Ytmebogkhdbbbbaa.C
open Go

def isDig (c : Int) : Bool := decide (48 ≤ c) && decide (c ≤ 57)
/-- The number of decimal digits. -/
def val (ds : List Int) : Int := ds.foldl (fun n c => n * 10 + (c - 48)) 0
theorem val_snoc (ds : List Int) (c : Int) : val (ds ++ [c]) = val ds * 10 + (c - 48) := by unfold val; rw [List.foldl_append]; rfl
/-- The digits behind a sign, and whether there is one. -/
def minus (bs : List Int) : Bool := bs.head? == some 45
def body (bs : List Int) : List Int := if minus bs then bs.tail else bs
def signed (m : Bool) (n : Int) : Int := if m then -n else n
/-- May the digits be a number's, by their form? -/
def formOk (m : Bool) (ds : List Int) : Prop := ds ≠ [] ∧ ds.length ≤ 10 ∧ (1 < ds.length → ds.head? ≠ some 48) ∧ (m = true → ds ≠ [48])
instance (m : Bool) (ds : List Int) : Decidable (formOk m ds) := by unfold formOk; infer_instance
/-- The number of 32 bits of a text; false: it is none. -/
def parseOf (bs : List Int) : Int × Bool :=
  if formOk (minus bs) (body bs) ∧ (body bs).all isDig = true ∧ -2147483648 ≤ signed (minus bs) (val (body bs)) ∧ signed (minus bs) (val (body bs)) ≤ 2147483647
  then (signed (minus bs) (val (body bs)), true) else (0, false)

/-! A list told from its end. -/
theorem snoc_ind {P : List Int → Prop} (h0 : P []) (h1 : ∀ l c, P l → P (l ++ [c])) : ∀ l, P l := by
  intro l
  have : ∀ n (l : List Int), l.length = n → P l := by
    intro n
    induction n with
    | zero => intro l h; rw [List.eq_nil_of_length_eq_zero h]; exact h0
    | succ n ih =>
      intro l h
      have hne : l ≠ [] := by intro e; rw [e] at h; simp at h
      rw [← List.dropLast_concat_getLast hne]
      exact h1 _ _ (ih _ (by simp [h]))
  exact this _ l rfl
theorem all_snoc (l : List Int) (c : Int) : (l ++ [c]).all isDig = (l.all isDig && isDig c) := by simp [List.all_append]
theorem isDig_iff (c : Int) : isDig c = true ↔ 48 ≤ c ∧ c ≤ 57 := by unfold isDig; simp
theorem val_nonneg : ∀ ds : List Int, ds.all isDig = true → 0 ≤ val ds := by
  intro ds
  induction ds using snoc_ind with
  | h0 => intro _; decide
  | h1 l c ih =>
    intro h
    rw [all_snoc, Bool.and_eq_true, isDig_iff] at h
    have := ih h.1
    rw [val_snoc]; omega
theorem val_lt : ∀ ds : List Int, ds.all isDig = true → val ds < 10 ^ ds.length := by
  intro ds
  induction ds using snoc_ind with
  | h0 => intro _; decide
  | h1 l c ih =>
    intro h
    rw [all_snoc, Bool.and_eq_true, isDig_iff] at h
    have := ih h.1
    rw [val_snoc, List.length_append, List.length_singleton, Int.pow_succ]; omega
theorem head_snoc (l : List Int) (c : Int) (h : l ≠ []) : (l ++ [c]).head? = l.head? := by cases l with | nil => exact absurd rfl h | cons a l => rfl
/-- Without a 0 ahead the value is as great as the digits are many. -/
theorem val_ge : ∀ ds : List Int, ds.all isDig = true → ds ≠ [] → ds.head? ≠ some 48 → 10 ^ (ds.length - 1) ≤ val ds := by
  intro ds
  induction ds using snoc_ind with
  | h0 => intro _ h; exact absurd rfl h
  | h1 l c ih =>
    intro h _ hh
    rw [all_snoc, Bool.and_eq_true, isDig_iff] at h
    rw [val_snoc, List.length_append, List.length_singleton, Nat.add_sub_cancel]
    by_cases hl : l = []
    · subst hl
      have : c ≠ 48 := fun e => hh (by simp [e])
      show (10 : Int) ^ 0 ≤ val [] * 10 + (c - 48)
      simp only [val, List.foldl_nil]; omega
    · have h2 := ih h.1 hl (by rw [← head_snoc l c hl]; exact hh)
      obtain ⟨m, hm⟩ : ∃ m, l.length = m + 1 := ⟨l.length - 1, by have := List.length_pos_iff.2 hl; omega⟩
      rw [hm] at h2 ⊢
      rw [Int.pow_succ]; simp only [Nat.add_sub_cancel] at h2; omega
theorem dg_digit (c : Int) (h : 48 ≤ c ∧ c ≤ 57) (v : Int) : dg ((v * 10 + (c - 48)) % 10) = c := by
  rw [show (v * 10 + (c - 48)) % 10 = c - 48 by omega]; unfold dg; rw [if_pos (by omega)]; omega
/-- Digits without a 0 ahead are those of their value. -/
theorem digs_val : ∀ (ds : List Int), ds.all isDig = true → (ds ≠ [] → ds.head? ≠ some 48) → ∀ f, ds.length ≤ f → digs 10 f (val ds) 0 = ds := by
  intro ds
  induction ds using snoc_ind with
  | h0 => intro _ _ f _; exact digs_zero 10 f
  | h1 l c ih =>
    intro h hh f hf
    rw [all_snoc, Bool.and_eq_true, isDig_iff] at h
    rw [List.length_append, List.length_singleton] at hf
    obtain ⟨f, rfl⟩ : ∃ g, f = g + 1 := ⟨f - 1, by omega⟩
    have hv := val_nonneg l h.1
    have hpos : 0 < val (l ++ [c]) := by
      have := val_ge (l ++ [c]) (by rw [all_snoc, h.1, (isDig_iff c).2 h.2]; rfl) (by simp) (hh (by simp))
      have h1 : (1 : Int) ≤ 10 ^ ((l ++ [c]).length - 1) := by have := Int.pow_pos (n := 10) (m := (l ++ [c]).length - 1) (by decide); omega
      omega
    rw [digs_succ, if_pos (.inl hpos), val_snoc, dg_digit c h.2, show (val l * 10 + (c - 48)) / 10 = val l by omega]
    rw [ih h.1 (fun hl => by rw [← head_snoc l c hl]; exact hh (by simp)) f (by omega)]
theorem digs_pos (f : Nat) (n : Int) (h : 0 < n) : digs 10 (f + 1) n 1 = digs 10 (f + 1) n 0 := by
  rw [digs_succ, digs_succ, if_pos (.inl h), if_pos (.inl h)]
/-- Every digit of a number is one. -/
theorem digs_all : ∀ (f : Nat) (n : Int) (m : Nat), 0 ≤ n → (digs 10 f n m).all isDig = true
  | 0, _, _, _ => rfl
  | f + 1, n, m, h => by
    rw [digs_succ]
    split
    · rw [all_snoc, digs_all f (n / 10) (m - 1) (by omega), Bool.true_and, isDig_iff]
      unfold dg; rw [if_pos (by omega)]; omega
    · rfl
theorem digs_head : ∀ (f : Nat) (n : Int), 0 < n → n < 10 ^ f → digs 10 f n 0 ≠ [] ∧ (digs 10 f n 0).head? ≠ some 48
  | 0, n, h, h2 => by simp at h2; omega
  | f + 1, n, h, h2 => by
    rw [digs_succ, if_pos (.inl h)]
    by_cases h0 : n / 10 = 0
    · rw [h0, digs_zero]
      refine ⟨by simp, ?_⟩
      simp only [List.nil_append, List.head?_cons]
      unfold dg; rw [if_pos (by omega)]
      intro e; injection e with e; omega
    · rw [Int.pow_succ] at h2
      have h3 := digs_head f (n / 10) (by omega) (by omega)
      refine ⟨by simp, ?_⟩
      rw [head_snoc _ _ h3.1]; exact h3.2
theorem val_digs : ∀ (f : Nat) (n : Int) (m : Nat), 0 ≤ n → n < 10 ^ f → val (digs 10 f n m) = n
  | 0, n, _, h, h2 => by
    have : n = 0 := by simp at h2; omega
    subst this; rfl
  | f + 1, n, m, h, h2 => by
    rw [digs_succ]
    rw [Int.pow_succ] at h2
    split
    · rw [val_snoc, val_digs f (n / 10) (m - 1) (by omega) (by omega)]
      unfold dg; rw [if_pos (by omega)]; omega
    · have : n = 0 := by omega
      subst this; rfl

theorem digs_zero_one : digs 10 65 0 1 = [48] := by
  rw [digs_succ, if_pos (.inr (by omega)), show (0 : Int) / 10 = 0 by decide, digs_zero]; rfl
theorem textOf_neg (n : Int) (h : n < 0) : textOf n = 45 :: digs 10 65 (-n) 0 := by unfold textOf; rw [if_pos h, digs_pos 64 (-n) (by omega)]
theorem textOf_pos (n : Int) (h : 0 < n) : textOf n = digs 10 65 n 0 := by unfold textOf; rw [if_neg (by omega), digs_pos 64 n h]
theorem textOf_zero : textOf 0 = [48] := by unfold textOf; rw [if_neg (by omega)]; exact digs_zero_one
theorem big (n : Int) (h : n < 18446744073709551616) : n < 10 ^ 65 := by
  have : (18446744073709551616 : Int) ≤ 10 ^ 65 := by decide
  omega
theorem head_dig (ds : List Int) (h : ds.all isDig = true) : ds.head? ≠ some 45 := by
  cases ds with
  | nil => simp
  | cons a l =>
    rw [List.all_cons, Bool.and_eq_true, isDig_iff] at h
    intro e; injection e with e; omega
theorem minus_dig (ds : List Int) (h : ds.all isDig = true) : minus ds = false := by
  unfold minus; exact beq_eq_false_iff_ne.2 (head_dig ds h)
theorem body_dig (ds : List Int) (h : ds.all isDig = true) : body ds = ds := by unfold body; rw [minus_dig ds h]; rfl
theorem minus_neg (ds : List Int) : minus (45 :: ds) = true := rfl
theorem body_neg (ds : List Int) : body (45 :: ds) = ds := rfl
theorem pow_len (ds : List Int) (n : Int) (h : ds.all isDig = true) (h0 : ds ≠ []) (h1 : ds.head? ≠ some 48) (hn : val ds = n) (hb : n ≤ 2147483648) : ds.length ≤ 10 := by
  have h2 := val_ge ds h h0 h1
  by_cases h3 : ds.length ≤ 10
  · exact h3
  · have h4 : (10 : Nat) ^ 10 ≤ 10 ^ (ds.length - 1) := Nat.pow_le_pow_right (by omega) (by omega)
    have h5 : ((10 : Nat) ^ (ds.length - 1) : Int) = (10 : Int) ^ (ds.length - 1) := by norm_cast
    have h6 : (10 : Nat) ^ 10 = 10000000000 := by decide
    omega
/-- A number's text is read as the number, where it has 32 bits; else as none. -/
theorem parse_text (n : Int) (h : -9223372036854775808 ≤ n ∧ n ≤ 9223372036854775807) : parseOf (textOf n) = if -2147483648 ≤ n ∧ n ≤ 2147483647 then (n, true) else (0, false) := by
  rcases Int.lt_trichotomy n 0 with h0 | h0 | h0
  · have ha := digs_all 65 (-n) 0 (by omega)
    have hh := digs_head 65 (-n) (by omega) (big _ (by omega))
    have hv := val_digs 65 (-n) 0 (by omega) (big _ (by omega))
    rw [textOf_neg n h0]
    unfold parseOf
    rw [minus_neg, body_neg, ha, hv]
    simp only [signed, if_true, Int.neg_neg]
    by_cases hr : -2147483648 ≤ n ∧ n ≤ 2147483647
    · rw [if_pos hr, if_pos ⟨⟨hh.1, pow_len _ (-n) ha hh.1 hh.2 hv (by omega), fun _ => hh.2, fun _ e => hh.2 (by rw [e]; rfl)⟩, trivial, hr⟩]
    · rw [if_neg hr, if_neg (fun e => hr e.2.2)]
  · subst h0; rw [textOf_zero]; decide
  · have ha := digs_all 65 n 0 (by omega)
    have hh := digs_head 65 n (by omega) (big _ (by omega))
    have hv := val_digs 65 n 0 (by omega) (big _ (by omega))
    rw [textOf_pos n h0]
    unfold parseOf
    rw [minus_dig _ ha, body_dig _ ha, ha, hv]
    simp only [signed]
    by_cases hr : -2147483648 ≤ n ∧ n ≤ 2147483647
    · rw [if_pos hr, if_pos ⟨⟨hh.1, pow_len _ n ha hh.1 hh.2 hv (by omega), fun _ => hh.2, fun e => by cases e⟩, trivial, hr⟩]
      rfl
    · rw [if_neg hr, if_neg (fun e => hr e.2.2)]
theorem cons_body (bs : List Int) (h : minus bs = true) : bs = 45 :: body bs := by
  unfold body; rw [h]
  cases bs with
  | nil => simp [minus] at h
  | cons a l => simp [minus] at h; subst h; rfl
theorem head_len (ds : List Int) (h0 : ds ≠ []) (h1 : 1 < ds.length → ds.head? ≠ some 48) (h2 : ds ≠ [48]) : ds.head? ≠ some 48 := by
  match ds, h0, h1, h2 with
  | [a], _, _, h2 => intro e; injection e with e; subst e; exact h2 rfl
  | a :: b :: l, _, h1, _ => exact h1 (by simp)
/-- Among texts of digits with or without a sign ahead, those of the right form are numbers' own texts. -/
theorem text_iff (bs : List Int) (hd : (body bs).all isDig = true) (hr : -2147483648 ≤ signed (minus bs) (val (body bs)) ∧ signed (minus bs) (val (body bs)) ≤ 2147483647) :
    textOf (signed (minus bs) (val (body bs))) = bs ↔ formOk (minus bs) (body bs) := by
  have hv0 := val_nonneg _ hd
  constructor
  · intro e
    obtain ⟨n, hn⟩ : ∃ n, n = signed (minus bs) (val (body bs)) := ⟨_, rfl⟩
    rw [← hn] at e hr
    have key : ∀ n : Int, -2147483648 ≤ n ∧ n ≤ 2147483647 → formOk (minus (textOf n)) (body (textOf n)) := by
      intro n hr
      rcases Int.lt_trichotomy n 0 with h0 | h0 | h0
      · have ha := digs_all 65 (-n) 0 (by omega)
        have hh := digs_head 65 (-n) (by omega) (big _ (by omega))
        have hv := val_digs 65 (-n) 0 (by omega) (big _ (by omega))
        rw [textOf_neg n h0, minus_neg, body_neg]
        exact ⟨hh.1, pow_len _ (-n) ha hh.1 hh.2 hv (by omega), fun _ => hh.2, fun _ e => hh.2 (by rw [e]; rfl)⟩
      · subst h0; rw [textOf_zero]; decide
      · have ha := digs_all 65 n 0 (by omega)
        have hh := digs_head 65 n (by omega) (big _ (by omega))
        have hv := val_digs 65 n 0 (by omega) (big _ (by omega))
        rw [textOf_pos n h0, minus_dig _ ha, body_dig _ ha]
        exact ⟨hh.1, pow_len _ n ha hh.1 hh.2 hv (by omega), fun _ => hh.2, fun e => by cases e⟩
    have := key n hr
    rw [e] at this
    exact this
  · rintro ⟨f1, f2, f3, f4⟩
    by_cases h48 : body bs = [48]
    · have hm : minus bs = false := by
        cases hm : minus bs with
        | false => rfl
        | true => exact absurd h48 (f4 hm)
      rw [hm, h48, show val [48] = 0 from by decide, show signed false 0 = 0 from rfl, textOf_zero, ← h48]
      unfold body; rw [hm]; rfl
    · have hh := head_len _ f1 f3 h48
      have hg := val_ge _ hd f1 hh
      have hp := Int.pow_pos (n := 10) (m := (body bs).length - 1) (by decide)
      have hds := digs_val (body bs) hd (fun _ => hh) 65 (by omega)
      cases hm : minus bs with
      | false =>
        rw [show signed false (val (body bs)) = val (body bs) from rfl, textOf_pos _ (by omega), hds]
        unfold body; rw [hm]; rfl
      | true =>
        rw [show signed true (val (body bs)) = -(val (body bs)) from rfl, textOf_neg _ (by omega), Int.neg_neg, hds]
        exact (cons_body bs hm).symm

/-! Sixteen digits. -/
def hexVal (c : Int) : Int := if 48 ≤ c ∧ c ≤ 57 then c - 48 else if 97 ≤ c ∧ c ≤ 102 then c - 87 else -1
def hexAll (w : Int) (bs : List Int) : Int := bs.foldl (fun w c => w * 16 + hexVal c) w
def parseHexOf (bs : List Int) : Int × Bool := if bs.length = 8 ∧ bs.all (fun c => decide (0 ≤ hexVal c)) = true then (hexAll 0 bs, true) else (0, false)
def hexOf (w : Int) : List Int := digs 16 65 w 8
theorem hexVal_range (c : Int) : -1 ≤ hexVal c ∧ hexVal c ≤ 15 := by unfold hexVal; split; omega; split <;> omega
theorem hexVal_dg (d : Int) (h : 0 ≤ d ∧ d ≤ 15) : hexVal (dg d) = d := by
  unfold dg hexVal
  split
  · rw [if_pos (by omega)]; omega
  · rw [if_neg (by omega), if_pos (by omega)]; omega
theorem hex_rec (f : Nat) (w : Int) (m : Nat) : digs 16 (f + 1) w (m + 1) = digs 16 f (w / 16) m ++ [dg (w % 16)] := by
  rw [digs_succ, if_pos (.inr (by omega)), Nat.add_sub_cancel]
theorem hexOf_eq (w : Int) (h : 0 ≤ w ∧ w < 4294967296) : hexOf w = [dg (w / 268435456 % 16), dg (w / 16777216 % 16), dg (w / 1048576 % 16), dg (w / 65536 % 16), dg (w / 4096 % 16), dg (w / 256 % 16), dg (w / 16 % 16), dg (w % 16)] := by
  unfold hexOf
  rw [hex_rec, hex_rec, hex_rec, hex_rec, hex_rec, hex_rec, hex_rec, hex_rec]
  rw [show w / 16 / 16 = w / 256 by omega, show w / 256 / 16 = w / 4096 by omega, show w / 4096 / 16 = w / 65536 by omega, show w / 65536 / 16 = w / 1048576 by omega, show w / 1048576 / 16 = w / 16777216 by omega, show w / 16777216 / 16 = w / 268435456 by omega, show w / 268435456 / 16 = 0 by omega, digs_zero]
  rfl
theorem parse_hex (w : Int) (h : 0 ≤ w ∧ w < 4294967296) : parseHexOf (hexOf w) = (w, true) := by
  rw [hexOf_eq w h]
  have e : ∀ a b c d e f g h : Int, (0 ≤ a ∧ a ≤ 15) → (0 ≤ b ∧ b ≤ 15) → (0 ≤ c ∧ c ≤ 15) → (0 ≤ d ∧ d ≤ 15) → (0 ≤ e ∧ e ≤ 15) → (0 ≤ f ∧ f ≤ 15) → (0 ≤ g ∧ g ≤ 15) → (0 ≤ h ∧ h ≤ 15) →
      parseHexOf [dg a, dg b, dg c, dg d, dg e, dg f, dg g, dg h] = (((((((a * 16 + b) * 16 + c) * 16 + d) * 16 + e) * 16 + f) * 16 + g) * 16 + h, true) := by
    intro a b c d e f g h ha hb hc hd he hf hg hh
    have hall : [dg a, dg b, dg c, dg d, dg e, dg f, dg g, dg h].all (fun c => decide (0 ≤ hexVal c)) = true := by
      simp only [List.all_cons, List.all_nil, hexVal_dg a ha, hexVal_dg b hb, hexVal_dg c hc, hexVal_dg d hd, hexVal_dg e he, hexVal_dg f hf, hexVal_dg g hg, hexVal_dg h hh]
      simp; omega
    unfold parseHexOf hexAll
    rw [if_pos ⟨rfl, hall⟩]
    simp only [List.foldl_cons, List.foldl_nil, hexVal_dg a ha, hexVal_dg b hb, hexVal_dg c hc, hexVal_dg d hd, hexVal_dg e he, hexVal_dg f hf, hexVal_dg g hg, hexVal_dg h hh]
    congr 1; omega
  rw [e _ _ _ _ _ _ _ _ (by omega) (by omega) (by omega) (by omega) (by omega) (by omega) (by omega) (by omega)]
  congr 1
  omega
end Go.Proofs.Ytmebogkhdbbbbaa.C

/- Which words a text is: the program's way, line by line, and the reference's, byte by byte, come to one answer. -/
import Derived.Test.YtfagpgpeiomnpaaPx41
import Derived.Test.YtfagpgpeiomnpaaPx43
import Derived.Test.YtfagpgpeiomnpaaPx44
import Derived.Test.YtfagpgpeiomnpaaQDec
import Derived.Test.YtfagpgpeiomnpaaQTx
import Derived.Test.YtfagpgpeiomnpaaCStill
namespace Go.Proofs.Ytfagpgpeiomnpaa.Q
set_option linter.unusedSimpArgs false
set_option linter.unusedVariables false
open Go Go.RowKit Go.Proofs.Ytfagpgpeiomnpaa.P Go.Proofs.Ytfagpgpeiomnpaa.C Go.Proofs.YtfagpgpeiomnpaaW.PrintWords Go.Proofs.YtfagpgpeiomnpaaW.PrintLast Go.Proofs.YtfagpgpeiomnpaaW.PrintMore
theorem ls_w {x : Int} (h0 : -1 ≤ x) (h : x ≤ 1000000) : wrap64 x = x := by unfold wrap64; omega
theorem ls_byte (s : ByteArray) (j : Nat) : (bytesOf s)[j]? = some 10 ↔ s.data.toList[j]? = some 10 := by
  unfold bytesOf
  rw [List.getElem?_map]
  cases s.data.toList[j]? with
  | none => simp
  | some b =>
    simp only [Option.map_some, Option.some.injEq]
    constructor
    · intro h
      have : b.toNat = (10 : UInt8).toNat := by rw [show (10 : UInt8).toNat = 10 from rfl]; omega
      exact UInt8.toNat_inj.1 this
    · intro h; subst h; rfl
theorem ls_ix (s : ByteArray) (i : Nat) (h : (bytesOf s)[i]? = some 10) (hn : ∀ j, j < i → (bytesOf s)[j]? ≠ some 10) : ct_ix s = i := by
  unfold ct_ix
  have h' := (ls_byte s i).1 h
  rcases ct_list 10 s.data.toList with ⟨_, hm⟩ | ⟨q, e, _, hq, hm⟩
  · exact absurd h' (hm i (List.getElem?_eq_some_iff.1 h').1)
  · have h1 : ¬ i < q := fun g => hm i g h'
    have h2 : ¬ q < i := fun g => hn q g ((ls_byte s q).2 hq)
    rw [e]; omega
theorem ls_none (s : ByteArray) (hn : ∀ j : Nat, (bytesOf s)[j]? ≠ some 10) : ct_ix s = -1 := by
  unfold ct_ix
  rcases ct_list 10 s.data.toList with ⟨e, _⟩ | ⟨q, _, _, hq, _⟩
  · exact e
  · exact absurd ((ls_byte s q).2 hq) (hn q)
theorem ls_hexAll : ∀ (bs : List Int) (w : Int) (n : Nat), bs.all (fun c => decide (0 ≤ hexVal c)) = true → 0 ≤ w → w < 16 ^ n → 0 ≤ hexAll w bs ∧ hexAll w bs < 16 ^ (n + bs.length)
  | [], w, n, _, h0, h1 => ⟨h0, h1⟩
  | c :: bs, w, n, h, h0, h1 => by
    rw [List.all_cons, Bool.and_eq_true, decide_eq_true_eq] at h
    have hv := hexVal_range c
    have hp : (16 : Int) ^ (n + 1) = 16 ^ n * 16 := Int.pow_succ ..
    have := ls_hexAll bs (w * 16 + hexVal c) (n + 1) h.2 (by omega) (by omega)
    rw [show n + (c :: bs).length = n + 1 + bs.length by simp; omega]
    exact this
theorem ls_range (bs : List Int) : 0 ≤ (parseHexOf bs).1 ∧ (parseHexOf bs).1 ≤ 4294967295 := by
  unfold parseHexOf
  by_cases h : bs.length = 8 ∧ bs.all (fun c => decide (0 ≤ hexVal c)) = true
  · rw [if_pos h]
    have := ls_hexAll bs 0 0 h.2 (by omega) (by decide)
    rw [h.1] at this
    have e : (16 : Int) ^ (0 + 8) = 4294967296 := by decide
    rw [e] at this
    exact ⟨this.1, by omega⟩
  · rw [if_neg h]; exact ⟨by decide, by decide⟩
theorem ls_hx (w : Int) (h : 0 ≤ w ∧ w ≤ 4294967295) : (hx w).size = 8 := by
  unfold hx
  rw [strOfNums_size, hexOf_eq w (by omega)]; rfl
theorem ls_line (a w : Int) (ha : 0 ≤ a ∧ a ≤ 4294967295) (hw : 0 ≤ w ∧ w ≤ 4294967295) : 18 ≤ (lineOf a w).size := by
  unfold lineOf lineAt
  simp only [ByteArray.size_append, ls_hx a ha, ls_hx w hw, sp_size]
  omega
/-- A line, behind so many others. -/
def ls_step (s : ByteArray) (a : Int) (n : Nat) : Option (Int × Int) :=
  if s.size < 18 then none else
  if (parseHexOf (bytesOf (s.extract 0 8))).2 = true ∧ (parseHexOf (bytesOf (s.extract 9 17))).2 = true then
    (if s.toList = (lineOf (((if n = 0 then (parseHexOf (bytesOf (s.extract 0 8))).1 else a) + 4 * (n : Int)) % 4294967296) (parseHexOf (bytesOf (s.extract 9 17))).1).toList then
      some (if n = 0 then (parseHexOf (bytesOf (s.extract 0 8))).1 else a, (parseHexOf (bytesOf (s.extract 9 17))).1) else none)
  else none
theorem ls_step_range (s : ByteArray) (a : Int) (n : Nat) (ha : 0 ≤ a ∧ a ≤ 4294967295) (a' w : Int) (h : ls_step s a n = some (a', w)) : 0 ≤ a' ∧ a' ≤ 4294967295 := by
  unfold ls_step at h
  have h1 := ls_range (bytesOf (s.extract 0 8))
  by_cases h0 : n = 0
  · simp only [if_pos h0] at h
    split at h
    · exact absurd h (by simp)
    · split at h
      · split at h
        · simp only [Option.some.injEq, Prod.mk.injEq] at h
          rw [← h.1]; exact h1
        · exact absurd h (by simp)
      · exact absurd h (by simp)
  · simp only [if_neg h0] at h
    split at h
    · exact absurd h (by simp)
    · split at h
      · split at h
        · simp only [Option.some.injEq, Prod.mk.injEq] at h
          rw [← h.1]; exact ha
        · exact absurd h (by simp)
      · exact absurd h (by simp)
def ls_end (n : Nat) : Int × List Int × Int × Int := (0, [], (n : Int) + 1, 22)
def ls_all : Nat → ByteArray → Int → List Int → Int × List Int × Int × Int
  | 0, _, a, out => (a, out, 0, 0)
  | d + 1, t, a, out => if t.size = 0 then (a, out, 0, 0) else if ct_ix t < 0 then ls_end out.length else
    match ls_step (t.extract 0 (ct_ix t).toNat) a out.length with
    | none => ls_end out.length
    | some (a', w) => ls_all d (t.extract ((ct_ix t).toNat + 1) t.size) a' (out ++ [w])
theorem ls_all_nil (d : Nat) (t : ByteArray) (a : Int) (out : List Int) (h : t.size = 0) : ls_all d t a out = (a, out, 0, 0) := by
  cases d with
  | zero => rfl
  | succ d => rw [ls_all, if_pos h]
theorem ls_all_len : ∀ (d : Nat) (t : ByteArray) (a : Int) (out : List Int), (ls_all d t a out).2.1.length ≤ out.length + d
  | 0, t, a, out => by rw [ls_all]; exact Nat.le_refl _
  | d + 1, t, a, out => by
    rw [ls_all]
    split
    · show out.length ≤ _; omega
    · split
      · show (0 : Nat) ≤ _; omega
      · split
        · show (0 : Nat) ≤ _; omega
        · rename_i a' w _
          have := ls_all_len d (t.extract ((ct_ix t).toNat + 1) t.size) a' (out ++ [w])
          rw [List.length_append] at this
          simp only [List.length_cons, List.length_nil] at this
          omega
theorem ls_j1 (k : Nat) (hk : 100 ≤ k) (s rest : ByteArray) (a : Int) (ha : 0 ≤ a ∧ a ≤ 4294967295) (out : List Int) (ho : out.length ≤ 100000) (hs : s.size ≤ 100000) :
    listing_Read.j1 (k + 1) a out ((out.length : Int) + 1) s rest (decide ((s.size : Int) < 17)) =
      match ls_step s a out.length with
      | none => some (ls_end out.length)
      | some (a', w) => listing_Read.l0 k rest a' (out ++ [w]) ((out.length : Int) + 1) := by
  have r1 := ls_range (bytesOf (s.extract 0 8))
  have r2 := ls_range (bytesOf (s.extract 9 17))
  simp only [listing_Read.j1]
  unfold ls_step ls_end
  by_cases h17 : (s.size : Int) < 17
  · rw [decide_eq_true h17, if_pos rfl, if_pos (by omega)]
  · rw [decide_eq_false h17, if_neg (by simp), if_pos (by omega), if_pos (by omega), word_parseHex_eq k _ (by omega), Option.bind_some, if_pos (by omega), if_pos (by omega), word_parseHex_eq k _ (by omega), Option.bind_some]
    generalize parseHexOf (bytesOf (s.extract 0 8)) = p at *
    generalize parseHexOf (bytesOf (s.extract 9 17)) = q at *
    have hw : wrap64 (4 * (out.length : Int)) % 4294967296 = (4 * (out.length : Int)) % 4294967296 := by rw [ls_w (by omega) (by omega)]
    rw [hw]
    by_cases h0 : out.length = 0
    · rw [if_pos (by omega)]
      simp only [if_pos h0]
      by_cases h1 : p.2 = true
      · by_cases h2 : q.2 = true
        · have e : (p.1 + 4 * (out.length : Int) % 4294967296) % 4294967296 = (p.1 + 4 * (out.length : Int)) % 4294967296 := by omega
          rw [if_pos h1, if_pos h2, e, line_eq k (by omega) _ _ (by omega) r2, Option.bind_some]
          have hz := ls_line ((p.1 + 4 * (out.length : Int)) % 4294967296) q.1 (by omega) r2
          by_cases h18 : s.size < 18
          · rw [if_pos h18, if_neg (fun e2 => by rw [toList_inj] at e2; rw [e2] at h18; omega)]
          · rw [if_neg h18, if_pos (And.intro h1 h2)]
            by_cases hl : s.toList = (lineOf ((p.1 + 4 * (out.length : Int)) % 4294967296) q.1).toList
            · rw [if_pos hl, if_pos hl, if_pos (by omega)]
            · rw [if_neg hl, if_neg hl]
        · rw [if_pos h1, if_neg h2, if_neg (show ¬ (p.2 = true ∧ q.2 = true) from fun g => h2 g.2)]
          rw [ite_self]
      · rw [if_neg h1, if_neg (show ¬ (p.2 = true ∧ q.2 = true) from fun g => h1 g.1)]
        rw [ite_self]
    · rw [if_neg (by omega)]
      simp only [if_neg h0]
      by_cases h1 : p.2 = true
      · by_cases h2 : q.2 = true
        · have e : (a + 4 * (out.length : Int) % 4294967296) % 4294967296 = (a + 4 * (out.length : Int)) % 4294967296 := by omega
          rw [if_pos h1, if_pos h2, e, line_eq k (by omega) _ _ (by omega) r2, Option.bind_some]
          have hz := ls_line ((a + 4 * (out.length : Int)) % 4294967296) q.1 (by omega) r2
          by_cases h18 : s.size < 18
          · rw [if_pos h18, if_neg (fun e2 => by rw [toList_inj] at e2; rw [e2] at h18; omega)]
          · rw [if_neg h18, if_pos (And.intro h1 h2)]
            by_cases hl : s.toList = (lineOf ((a + 4 * (out.length : Int)) % 4294967296) q.1).toList
            · rw [if_pos hl, if_pos hl, if_pos (by omega)]
            · rw [if_neg hl, if_neg hl]
        · rw [if_pos h1, if_neg h2, if_neg (show ¬ (p.2 = true ∧ q.2 = true) from fun g => h2 g.2)]
          rw [ite_self]
      · rw [if_neg h1, if_neg (show ¬ (p.2 = true ∧ q.2 = true) from fun g => h1 g.1)]
        rw [ite_self]
theorem ls_prog (d : Nat) : ∀ (k : Nat) (t : ByteArray) (a : Int) (out : List Int), t.size ≤ d → out.length + d ≤ 20000 → 0 ≤ a ∧ a ≤ 4294967295 → 200 + 2 * d < k →
    listing_Read.l0 k t a out (out.length : Int) = some (ls_all d t a out) := by
  induction d with
  | zero =>
    intro k t a out ht ho ha hk
    obtain ⟨k, rfl⟩ : ∃ m, k = m + 1 := ⟨k - 1, by omega⟩
    simp only [listing_Read.l0]
    rw [if_neg (by omega), ls_all]
  | succ d ih =>
    intro k t a out ht ho ha hk
    obtain ⟨k, rfl⟩ : ∃ m, k = m + 2 := ⟨k - 2, by omega⟩
    rw [show k + 2 = (k + 1) + 1 from rfl]
    simp only [listing_Read.l0]
    rw [ls_all]
    by_cases h0 : t.size = 0
    · rw [if_neg (by omega), if_pos h0]
    · rw [if_pos (by omega), if_neg h0, ls_w (by omega) (by omega)]
      unfold strings_Cut.f
      rw [if_pos ⟨rfl, by omega⟩]
      rcases ct_cases t with hix | ⟨i, hix, hi⟩
      · rw [hix, if_neg (by omega), Option.bind_some, if_neg (by simp), if_pos (by omega)]
        simp only [listing_Read.j1]
        rw [if_pos trivial]
        rfl
      · rw [hix, if_pos (by omega), Option.bind_some, if_pos rfl, if_neg (by omega), Int.toNat_natCast]
        simp only
        rw [ls_j1 k (by omega) _ _ a ha out (by omega) (by rw [ByteArray.size_extract]; omega)]
        generalize hst : ls_step (t.extract 0 i) a out.length = q
        cases q with
        | none => rfl
        | some q =>
          obtain ⟨a', w⟩ := q
          have hr := ls_step_range _ a out.length ha a' w hst
          have := ih k (t.extract (i + 1) t.size) a' (out ++ [w]) (by rw [ByteArray.size_extract]; omega) (by rw [List.length_append]; simp only [List.length_cons, List.length_nil]; omega) hr (by omega)
          rw [List.length_append] at this
          exact this
theorem ls_rline (k : Nat) (hk : 300 ≤ k) (x : ByteArray) (hx : x.size ≤ 100000) (a : Int) (ha : 0 ≤ a ∧ a ≤ 4294967295) (out : List Int) (ho : out.length ≤ 100000) (fr i : Nat) (hfi : fr ≤ i) (hi : i < x.size) (hb : bt x (i : Int) = 10) :
    pascalineref06_Read.l0 (k + 2) x a out (fr : Int) (i : Int) =
      match ls_step (x.extract fr i) a out.length with
      | none => some (ls_end out.length)
      | some (a', w) => pascalineref06_Read.l0 k x a' (out ++ [w]) ((i : Int) + 1) ((i : Int) + 1) := by
  rw [show k + 2 = (k + 1) + 1 from rfl]
  simp only [pascalineref06_Read.l0]
  rw [if_pos (by omega), if_pos (by omega), if_pos hb, if_pos (by omega), if_pos (by omega), if_pos (by omega), ls_w (x := (out.length : Int) + 1) (by omega) (by omega), ls_w (x := (i : Int) + 1) (by omega) (by omega)]
  simp only [Int.toNat_natCast]
  generalize x.extract fr i = s
  have r1 := ls_range (bytesOf (s.extract 0 8))
  have r2 := ls_range (bytesOf (s.extract 9 17))
  unfold ls_step ls_end
  by_cases h18 : s.size < 18
  · rw [if_pos (by omega), if_pos h18]
  · rw [if_neg (by omega), if_neg h18, if_pos (by omega), if_pos (by omega), ref_parseHex_eq (k + 1) _ (by omega), Option.bind_some, if_pos (by omega), if_pos (by omega), ref_parseHex_eq (k + 1) _ (by omega), Option.bind_some]
    generalize parseHexOf (bytesOf (s.extract 0 8)) = p at *
    generalize parseHexOf (bytesOf (s.extract 9 17)) = q at *
    have hn : wrap64 ((out.length : Int) + 1 - 1) = (out.length : Int) := by rw [ls_w (by omega) (by omega)]; omega
    by_cases h1 : p.2 = true
    · by_cases h2 : q.2 = true
      · rw [if_pos h1, if_pos (And.intro h1 h2), h2]
        simp only [pascalineref06_Read.j1, Bool.not_true]
        rw [if_neg (by simp), hn, ls_w (x := (i : Int) + 1) (by omega) (by omega)]
        by_cases h0 : out.length = 0
        · rw [if_pos (by omega)]
          simp only [if_pos h0]
          have e : (p.1 + 4 * ((out.length : Int) % 4294967296) % 4294967296) % 4294967296 = (p.1 + 4 * (out.length : Int)) % 4294967296 := by omega
          rw [e, rline_eq k (by omega) _ _ (by omega) r2, Option.bind_some]
          by_cases hl : s.toList = (lineOf ((p.1 + 4 * (out.length : Int)) % 4294967296) q.1).toList
          · rw [if_pos hl, if_pos hl, if_pos (by omega)]
          · rw [if_neg hl, if_neg hl]
        · rw [if_neg (by omega)]
          simp only [if_neg h0]
          have e : (a + 4 * ((out.length : Int) % 4294967296) % 4294967296) % 4294967296 = (a + 4 * (out.length : Int)) % 4294967296 := by omega
          rw [e, rline_eq k (by omega) _ _ (by omega) r2, Option.bind_some]
          by_cases hl : s.toList = (lineOf ((a + 4 * (out.length : Int)) % 4294967296) q.1).toList
          · rw [if_pos hl, if_pos hl, if_pos (by omega)]
          · rw [if_neg hl, if_neg hl]
      · rw [if_pos h1, if_neg (show ¬ (p.2 = true ∧ q.2 = true) from fun g => h2 g.2), show q.2 = false from Bool.eq_false_iff.mpr h2]
        simp only [pascalineref06_Read.j1, Bool.not_false, if_true]
    · rw [if_neg h1, if_neg (show ¬ (p.2 = true ∧ q.2 = true) from fun g => h1 g.1)]
      simp only [pascalineref06_Read.j1, if_true]
theorem ls_rest (x : ByteArray) (fr j : Nat) : (bytesOf (x.extract fr x.size))[j]? = (bytesOf x)[fr + j]? := by
  rw [bytesOf_extract, List.take_of_length_le (by rw [bytesOf_length]; omega), List.getElem?_drop]
theorem ls_bt (x : ByteArray) (i : Nat) (hi : i < x.size) : bt x (i : Int) = 10 ↔ (bytesOf x)[i]? = some 10 := by
  have h : i < (bytesOf x).length := by rw [bytesOf_length]; exact hi
  rw [bt_get x i h, List.getElem?_eq_getElem h, Option.some.injEq]
theorem ls_ref (m : Nat) : ∀ (k : Nat) (x : ByteArray) (a : Int) (out : List Int) (fr i d : Nat), x.size ≤ 10000 → i + m = x.size → fr ≤ i → (∀ j, fr ≤ j → j < i → (bytesOf x)[j]? ≠ some 10) → x.size - fr ≤ d → out.length ≤ fr →
    0 ≤ a ∧ a ≤ 4294967295 → 400 + 2 * m < k → pascalineref06_Read.l0 k x a out (fr : Int) (i : Int) = some (ls_all d (x.extract fr x.size) a out) := by
  induction m with
  | zero =>
    intro k x a out fr i d hx hi hf hn hd ho ha hk
    obtain ⟨k, rfl⟩ : ∃ m, k = m + 1 := ⟨k - 1, by omega⟩
    simp only [pascalineref06_Read.l0]
    rw [if_neg (by omega)]
    have hL := bytesOf_length x
    by_cases h0 : fr < x.size
    · obtain ⟨d, rfl⟩ : ∃ m, d = m + 1 := ⟨d - 1, by omega⟩
      rw [if_pos (by omega), ls_w (by omega) (by omega), ls_all, if_neg (by rw [ByteArray.size_extract]; omega), ls_none, if_pos (by omega)]
      · rfl
      · intro j
        rw [ls_rest]
        by_cases hj : fr + j < i
        · exact hn _ (by omega) hj
        · rw [List.getElem?_eq_none (by omega)]; simp
    · rw [if_neg (by omega), ls_all_nil _ _ _ _ (by rw [ByteArray.size_extract]; omega)]
  | succ m ih =>
    intro k x a out fr i d hx hi hf hn hd ho ha hk
    have hL := bytesOf_length x
    have hbt := ls_bt x i (by omega)
    by_cases hb : bt x (i : Int) = 10
    · obtain ⟨k, rfl⟩ : ∃ m, k = m + 2 := ⟨k - 2, by omega⟩
      obtain ⟨d, rfl⟩ : ∃ m, d = m + 1 := ⟨d - 1, by omega⟩
      have hix : ct_ix (x.extract fr x.size) = ((i - fr : Nat) : Int) := by
        refine ls_ix _ _ ?_ (fun j hj => ?_)
        · rw [ls_rest, show fr + (i - fr) = i by omega]; exact hbt.1 hb
        · rw [ls_rest]; exact hn _ (by omega) (by omega)
      have e1 : (x.extract fr x.size).extract 0 (i - fr) = x.extract fr i := by
        apply bytesOf_inj
        rw [bytesOf_extract, bytesOf_extract, bytesOf_extract, List.take_of_length_le (l := bytesOf x) (by omega), List.drop_zero, List.drop_take]
      have e2 : (x.extract fr x.size).extract (i - fr + 1) (x.extract fr x.size).size = x.extract (i + 1) x.size := by
        apply bytesOf_inj
        rw [bytesOf_extract, List.take_of_length_le (by rw [bytesOf_length]; omega), bytesOf_extract, bytesOf_extract, List.take_of_length_le (l := bytesOf x) (by omega), List.drop_drop]
        congr 1; omega
      rw [ls_rline k (by omega) x (by omega) a ha out (by omega) fr i hf (by omega) hb, ls_all, if_neg (by rw [ByteArray.size_extract]; omega), hix, if_neg (by omega), Int.toNat_natCast, e1, e2]
      generalize hst : ls_step (x.extract fr i) a out.length = q
      cases q with
      | none => rfl
      | some q =>
        obtain ⟨a', w⟩ := q
        have hr := ls_step_range _ a out.length ha a' w hst
        exact ih k x a' (out ++ [w]) (i + 1) (i + 1) d hx (by omega) (by omega) (fun j h1 h2 => by omega) (by omega) (by rw [List.length_append]; simp only [List.length_cons, List.length_nil]; omega) hr (by omega)
    · obtain ⟨k, rfl⟩ : ∃ m, k = m + 1 := ⟨k - 1, by omega⟩
      simp only [pascalineref06_Read.l0]
      rw [if_pos (by omega), if_pos (by omega), if_neg hb, ls_w (by omega) (by omega)]
      refine ih k x a out fr (i + 1) d hx (by omega) (by omega) (fun j h1 h2 => ?_) hd ho ha (by omega)
      by_cases e : j = i
      · subst e; exact fun g => hb (hbt.2 g)
      · exact hn j h1 (by omega)
theorem ls_words (l : List Int) (hl : l.length ≤ 1000000) (d : Nat) : ∀ (k i : Nat), i + d = l.length → d < k → pascalineref01_Words.l0 k l l (i : Int) = some true := by
  induction d with
  | zero =>
    intro k i hi hk
    obtain ⟨k, rfl⟩ : ∃ m, k = m + 1 := ⟨k - 1, by omega⟩
    simp only [pascalineref01_Words.l0]
    rw [if_neg (by omega)]
  | succ d ih =>
    intro k i hi hk
    obtain ⟨k, rfl⟩ : ∃ m, k = m + 1 := ⟨k - 1, by omega⟩
    simp only [pascalineref01_Words.l0]
    rw [if_pos (by omega), if_pos (by omega), if_pos (by omega), if_pos trivial, ls_w (by omega) (by omega)]
    exact ih k (i + 1) (by omega) (by omega)
end Go.Proofs.Ytfagpgpeiomnpaa.Q

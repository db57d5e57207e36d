/- Which words a text is: the program's way, line by line, and the reference's, byte by byte, come to one answer. -/
import Derived.Test.YtfagpgpeiomnpaaPx41
import Derived.Test.YtfagpgpeiomnpaaQDec
import Derived.Test.YtfagpgpeiomnpaaQTx
import Derived.Test.YtfagpgpeiomnpaaCCut
import Derived.Test.YtfagpgpeiomnpaaPx48
namespace Go.Proofs.Ytfagpgpeiomnpaa.Q
set_option linter.unusedSimpArgs false
set_option linter.unusedVariables false
open Go Go.RowKit Go.Proofs.Ytfagpgpeiomnpaa.P Go.Proofs.Ytfagpgpeiomnpaa.C Go.Proofs.YtfagpgpeiomnpaaW.PrintWords Go.Proofs.YtfagpgpeiomnpaaW.PrintLast Go.Proofs.YtfagpgpeiomnpaaW.PrintMore
theorem ls_w {x : Int} (h0 : -1 ≤ x) (h : x ≤ 1000000) : wrap64 x = x := by unfold wrap64; omega
theorem ls_byte (s : ByteArray) (j : Nat) : (bytesOf s)[j]? = some 10 ↔ s.data.toList[j]? = some 10 := by
  unfold bytesOf
  rw [List.getElem?_map]
  cases s.data.toList[j]? with
  | none => simp
  | some b =>
    simp only [Option.map_some, Option.some.injEq]
    constructor
    · intro h
      have : b.toNat = (10 : UInt8).toNat := by rw [show (10 : UInt8).toNat = 10 from rfl]; omega
      exact UInt8.toNat_inj.1 this
    · intro h; subst h; rfl
theorem ls_ix (s : ByteArray) (i : Nat) (h : (bytesOf s)[i]? = some 10) (hn : ∀ j, j < i → (bytesOf s)[j]? ≠ some 10) : ct_ix s = i := by
  unfold ct_ix
  have h' := (ls_byte s i).1 h
  rcases ct_list 10 s.data.toList with ⟨_, hm⟩ | ⟨q, e, _, hq, hm⟩
  · exact absurd h' (hm i (List.getElem?_eq_some_iff.1 h').1)
  · have h1 : ¬ i < q := fun g => hm i g h'
    have h2 : ¬ q < i := fun g => hn q g ((ls_byte s q).2 hq)
    rw [e]; omega
theorem ls_none (s : ByteArray) (hn : ∀ j : Nat, (bytesOf s)[j]? ≠ some 10) : ct_ix s = -1 := by
  unfold ct_ix
  rcases ct_list 10 s.data.toList with ⟨e, _⟩ | ⟨q, _, _, hq, _⟩
  · exact e
  · exact absurd ((ls_byte s q).2 hq) (hn q)
theorem ls_hexAll : ∀ (bs : List Int) (w : Int) (n : Nat), bs.all (fun c => decide (0 ≤ hexVal c)) = true → 0 ≤ w → w < 16 ^ n → 0 ≤ hexAll w bs ∧ hexAll w bs < 16 ^ (n + bs.length)
  | [], w, n, _, h0, h1 => ⟨h0, h1⟩
  | c :: bs, w, n, h, h0, h1 => by
    rw [List.all_cons, Bool.and_eq_true, decide_eq_true_eq] at h
    have hv := hexVal_range c
    have hp : (16 : Int) ^ (n + 1) = 16 ^ n * 16 := Int.pow_succ ..
    have := ls_hexAll bs (w * 16 + hexVal c) (n + 1) h.2 (by omega) (by omega)
    rw [show n + (c :: bs).length = n + 1 + bs.length by simp; omega]
    exact this
theorem ls_range (bs : List Int) : 0 ≤ (parseHexOf bs).1 ∧ (parseHexOf bs).1 ≤ 4294967295 := by
  unfold parseHexOf
  by_cases h : bs.length = 8 ∧ bs.all (fun c => decide (0 ≤ hexVal c)) = true
  · rw [if_pos h]
    have := ls_hexAll bs 0 0 h.2 (by omega) (by decide)
    rw [h.1] at this
    have e : (16 : Int) ^ (0 + 8) = 4294967296 := by decide
    rw [e] at this
    exact ⟨this.1, by omega⟩
  · rw [if_neg h]; exact ⟨by decide, by decide⟩
theorem ls_hx (w : Int) (h : 0 ≤ w ∧ w ≤ 4294967295) : (hx w).size = 8 := by
  unfold hx
  rw [strOfNums_size, hexOf_eq w (by omega)]; rfl
theorem ls_line (a w : Int) (ha : 0 ≤ a ∧ a ≤ 4294967295) (hw : 0 ≤ w ∧ w ≤ 4294967295) : 18 ≤ (lineOf a w).size := by
  unfold lineOf lineAt
  simp only [ByteArray.size_append, ls_hx a ha, ls_hx w hw, sp_size]
  omega
/-- A line, behind so many others. -/
def ls_step (s : ByteArray) (a : Int) (n : Nat) : Option (Int × Int) :=
  if s.size < 18 then none else
  if (parseHexOf (bytesOf (s.extract 0 8))).2 = true ∧ (parseHexOf (bytesOf (s.extract 9 17))).2 = true then
    (if s.toList = (lineOf (((if n = 0 then (parseHexOf (bytesOf (s.extract 0 8))).1 else a) + 4 * (n : Int)) % 4294967296) (parseHexOf (bytesOf (s.extract 9 17))).1).toList then
      some (if n = 0 then (parseHexOf (bytesOf (s.extract 0 8))).1 else a, (parseHexOf (bytesOf (s.extract 9 17))).1) else none)
  else none
theorem ls_step_range (s : ByteArray) (a : Int) (n : Nat) (ha : 0 ≤ a ∧ a ≤ 4294967295) (a' w : Int) (h : ls_step s a n = some (a', w)) : 0 ≤ a' ∧ a' ≤ 4294967295 := by
  unfold ls_step at h
  have h1 := ls_range (bytesOf (s.extract 0 8))
  by_cases h0 : n = 0
  · simp only [if_pos h0] at h
    split at h
    · exact absurd h (by simp)
    · split at h
      · split at h
        · simp only [Option.some.injEq, Prod.mk.injEq] at h
          rw [← h.1]; exact h1
        · exact absurd h (by simp)
      · exact absurd h (by simp)
  · simp only [if_neg h0] at h
    split at h
    · exact absurd h (by simp)
    · split at h
      · split at h
        · simp only [Option.some.injEq, Prod.mk.injEq] at h
          rw [← h.1]; exact ha
        · exact absurd h (by simp)
      · exact absurd h (by simp)
def ls_end (n : Nat) : Int × List Int × Int × Int := (0, [], (n : Int) + 1, 22)
def ls_all : Nat → ByteArray → Int → List Int → Int × List Int × Int × Int
  | 0, _, a, out => (a, out, 0, 0)
  | d + 1, t, a, out => if t.size = 0 then (a, out, 0, 0) else if ct_ix t < 0 then ls_end out.length else
    match ls_step (t.extract 0 (ct_ix t).toNat) a out.length with
    | none => ls_end out.length
    | some (a', w) => ls_all d (t.extract ((ct_ix t).toNat + 1) t.size) a' (out ++ [w])
theorem ls_all_nil (d : Nat) (t : ByteArray) (a : Int) (out : List Int) (h : t.size = 0) : ls_all d t a out = (a, out, 0, 0) := by
  cases d with
  | zero => rfl
  | succ d => rw [ls_all, if_pos h]
theorem ls_all_len : ∀ (d : Nat) (t : ByteArray) (a : Int) (out : List Int), (ls_all d t a out).2.1.length ≤ out.length + d
  | 0, t, a, out => by rw [ls_all]; exact Nat.le_refl _
  | d + 1, t, a, out => by
    rw [ls_all]
    split
    · show out.length ≤ _; omega
    · split
      · show (0 : Nat) ≤ _; omega
      · split
        · show (0 : Nat) ≤ _; omega
        · rename_i a' w _
          have := ls_all_len d (t.extract ((ct_ix t).toNat + 1) t.size) a' (out ++ [w])
          rw [List.length_append] at this
          simp only [List.length_cons, List.length_nil] at this
          omega
theorem ls_j1 (k : Nat) (hk : 100 ≤ k) (s rest : ByteArray) (a : Int) (ha : 0 ≤ a ∧ a ≤ 4294967295) (out : List Int) (ho : out.length ≤ 240000) (hs : s.size ≤ 240000) :
    listing_Read.j1 (k + 1) a out ((out.length : Int) + 1) s rest (decide ((s.size : Int) < 17)) =
      match ls_step s a out.length with
      | none => some (ls_end out.length)
      | some (a', w) => listing_Read.l0 k rest a' (out ++ [w]) ((out.length : Int) + 1) := by
  have r1 := ls_range (bytesOf (s.extract 0 8))
  have r2 := ls_range (bytesOf (s.extract 9 17))
  simp only [listing_Read.j1]
  unfold ls_step ls_end
  by_cases h17 : (s.size : Int) < 17
  · rw [decide_eq_true h17, if_pos rfl, if_pos (by omega)]
  · rw [decide_eq_false h17, if_neg (by simp), if_pos (by omega), if_pos (by omega), word_parseHex_eq k _ (by omega), Option.bind_some, if_pos (by omega), if_pos (by omega), word_parseHex_eq k _ (by omega), Option.bind_some]
    generalize parseHexOf (bytesOf (s.extract 0 8)) = p at *
    generalize parseHexOf (bytesOf (s.extract 9 17)) = q at *
    have hw : wrap64 (4 * (out.length : Int)) % 4294967296 = (4 * (out.length : Int)) % 4294967296 := by rw [ls_w (by omega) (by omega)]
    rw [hw]
    by_cases h0 : out.length = 0
    · rw [if_pos (by omega)]
      simp only [if_pos h0]
      by_cases h1 : p.2 = true
      · by_cases h2 : q.2 = true
        · have e : (p.1 + 4 * (out.length : Int) % 4294967296) % 4294967296 = (p.1 + 4 * (out.length : Int)) % 4294967296 := by omega
          rw [if_pos h1, if_pos h2, e, line_eq k (by omega) _ _ (by omega) r2, Option.bind_some]
          have hz := ls_line ((p.1 + 4 * (out.length : Int)) % 4294967296) q.1 (by omega) r2
          by_cases h18 : s.size < 18
          · rw [if_pos h18, if_neg (fun e2 => by rw [toList_inj] at e2; rw [e2] at h18; omega)]
          · rw [if_neg h18, if_pos (And.intro h1 h2)]
            by_cases hl : s.toList = (lineOf ((p.1 + 4 * (out.length : Int)) % 4294967296) q.1).toList
            · rw [if_pos hl, if_pos hl, if_pos (by omega)]
            · rw [if_neg hl, if_neg hl]
        · rw [if_pos h1, if_neg h2, if_neg (show ¬ (p.2 = true ∧ q.2 = true) from fun g => h2 g.2)]
          rw [ite_self]
      · rw [if_neg h1, if_neg (show ¬ (p.2 = true ∧ q.2 = true) from fun g => h1 g.1)]
        rw [ite_self]
    · rw [if_neg (by omega)]
      simp only [if_neg h0]
      by_cases h1 : p.2 = true
      · by_cases h2 : q.2 = true
        · have e : (a + 4 * (out.length : Int) % 4294967296) % 4294967296 = (a + 4 * (out.length : Int)) % 4294967296 := by omega
          rw [if_pos h1, if_pos h2, e, line_eq k (by omega) _ _ (by omega) r2, Option.bind_some]
          have hz := ls_line ((a + 4 * (out.length : Int)) % 4294967296) q.1 (by omega) r2
          by_cases h18 : s.size < 18
          · rw [if_pos h18, if_neg (fun e2 => by rw [toList_inj] at e2; rw [e2] at h18; omega)]
          · rw [if_neg h18, if_pos (And.intro h1 h2)]
            by_cases hl : s.toList = (lineOf ((a + 4 * (out.length : Int)) % 4294967296) q.1).toList
            · rw [if_pos hl, if_pos hl, if_pos (by omega)]
            · rw [if_neg hl, if_neg hl]
        · rw [if_pos h1, if_neg h2, if_neg (show ¬ (p.2 = true ∧ q.2 = true) from fun g => h2 g.2)]
          rw [ite_self]
      · rw [if_neg h1, if_neg (show ¬ (p.2 = true ∧ q.2 = true) from fun g => h1 g.1)]
        rw [ite_self]
theorem ls_prog (d : Nat) : ∀ (k : Nat) (t : ByteArray) (a : Int) (out : List Int), t.size ≤ d → out.length + d ≤ 240000 → 0 ≤ a ∧ a ≤ 4294967295 → 200 + 2 * d < k →
    listing_Read.l0 k t a out (out.length : Int) = some (ls_all d t a out) := by
  induction d with
  | zero =>
    intro k t a out ht ho ha hk
    obtain ⟨k, rfl⟩ : ∃ m, k = m + 1 := ⟨k - 1, by omega⟩
    simp only [listing_Read.l0]
    rw [if_neg (by omega), ls_all]
  | succ d ih =>
    intro k t a out ht ho ha hk
    obtain ⟨k, rfl⟩ : ∃ m, k = m + 2 := ⟨k - 2, by omega⟩
    rw [show k + 2 = (k + 1) + 1 from rfl]
    simp only [listing_Read.l0]
    rw [ls_all]
    by_cases h0 : t.size = 0
    · rw [if_neg (by omega), if_pos h0]
    · rw [if_pos (by omega), if_neg h0, ls_w (by omega) (by omega)]
      unfold strings_Cut.f
      rw [if_pos ⟨rfl, by omega⟩]
      rcases ct_cases t with hix | ⟨i, hix, hi⟩
      · rw [hix, if_neg (by omega), Option.bind_some, if_neg (by simp), if_pos (by omega)]
        simp only [listing_Read.j1]
        rw [if_pos trivial]
        rfl
      · rw [hix, if_pos (by omega), Option.bind_some, if_pos rfl, if_neg (by omega), Int.toNat_natCast]
        simp only
        rw [ls_j1 k (by omega) _ _ a ha out (by omega) (by rw [ByteArray.size_extract]; omega)]
        generalize hst : ls_step (t.extract 0 i) a out.length = q
        cases q with
        | none => rfl
        | some q =>
          obtain ⟨a', w⟩ := q
          have hr := ls_step_range _ a out.length ha a' w hst
          have := ih k (t.extract (i + 1) t.size) a' (out ++ [w]) (by rw [ByteArray.size_extract]; omega) (by rw [List.length_append]; simp only [List.length_cons, List.length_nil]; omega) hr (by omega)
          rw [List.length_append] at this
          exact this
theorem ls_rline (k : Nat) (hk : 300 ≤ k) (x : ByteArray) (hx : x.size ≤ 100000) (a : Int) (ha : 0 ≤ a ∧ a ≤ 4294967295) (out : List Int) (ho : out.length ≤ 100000) (fr i : Nat) (hfi : fr ≤ i) (hi : i < x.size) (hb : bt x (i : Int) = 10) :
    pascalineref06_Read.l0 (k + 2) x a out (fr : Int) (i : Int) =
      match ls_step (x.extract fr i) a out.length with
      | none => some (ls_end out.length)
      | some (a', w) => pascalineref06_Read.l0 k x a' (out ++ [w]) ((i : Int) + 1) ((i : Int) + 1) := by
  rw [show k + 2 = (k + 1) + 1 from rfl]
  simp only [pascalineref06_Read.l0]
  rw [if_pos (by omega), if_pos (by omega), if_pos hb, if_pos (by omega), if_pos (by omega), if_pos (by omega), ls_w (x := (out.length : Int) + 1) (by omega) (by omega), ls_w (x := (i : Int) + 1) (by omega) (by omega)]
  simp only [Int.toNat_natCast]
  generalize x.extract fr i = s
  have r1 := ls_range (bytesOf (s.extract 0 8))
  have r2 := ls_range (bytesOf (s.extract 9 17))
  unfold ls_step ls_end
  by_cases h18 : s.size < 18
  · rw [if_pos (by omega), if_pos h18]
  · rw [if_neg (by omega), if_neg h18, if_pos (by omega), if_pos (by omega), ref_parseHex_eq (k + 1) _ (by omega), Option.bind_some, if_pos (by omega), if_pos (by omega), ref_parseHex_eq (k + 1) _ (by omega), Option.bind_some]
    generalize parseHexOf (bytesOf (s.extract 0 8)) = p at *
    generalize parseHexOf (bytesOf (s.extract 9 17)) = q at *
    have hn : wrap64 ((out.length : Int) + 1 - 1) = (out.length : Int) := by rw [ls_w (by omega) (by omega)]; omega
    by_cases h1 : p.2 = true
    · by_cases h2 : q.2 = true
      · rw [if_pos h1, if_pos (And.intro h1 h2), h2]
        simp only [pascalineref06_Read.j1, Bool.not_true]
        rw [if_neg (by simp), hn, ls_w (x := (i : Int) + 1) (by omega) (by omega)]
        by_cases h0 : out.length = 0
        · rw [if_pos (by omega)]
          simp only [if_pos h0]
          have e : (p.1 + 4 * ((out.length : Int) % 4294967296) % 4294967296) % 4294967296 = (p.1 + 4 * (out.length : Int)) % 4294967296 := by omega
          rw [e, rline_eq k (by omega) _ _ (by omega) r2, Option.bind_some]
          by_cases hl : s.toList = (lineOf ((p.1 + 4 * (out.length : Int)) % 4294967296) q.1).toList
          · rw [if_pos hl, if_pos hl, if_pos (by omega)]
          · rw [if_neg hl, if_neg hl]
        · rw [if_neg (by omega)]
          simp only [if_neg h0]
          have e : (a + 4 * ((out.length : Int) % 4294967296) % 4294967296) % 4294967296 = (a + 4 * (out.length : Int)) % 4294967296 := by omega
          rw [e, rline_eq k (by omega) _ _ (by omega) r2, Option.bind_some]
          by_cases hl : s.toList = (lineOf ((a + 4 * (out.length : Int)) % 4294967296) q.1).toList
          · rw [if_pos hl, if_pos hl, if_pos (by omega)]
          · rw [if_neg hl, if_neg hl]
      · rw [if_pos h1, if_neg (show ¬ (p.2 = true ∧ q.2 = true) from fun g => h2 g.2), show q.2 = false from Bool.eq_false_iff.mpr h2]
        simp only [pascalineref06_Read.j1, Bool.not_false, if_true]
    · rw [if_neg h1, if_neg (show ¬ (p.2 = true ∧ q.2 = true) from fun g => h1 g.1)]
      simp only [pascalineref06_Read.j1, if_true]
theorem ls_rest (x : ByteArray) (fr j : Nat) : (bytesOf (x.extract fr x.size))[j]? = (bytesOf x)[fr + j]? := by
  rw [bytesOf_extract, List.take_of_length_le (by rw [bytesOf_length]; omega), List.getElem?_drop]
theorem ls_bt (x : ByteArray) (i : Nat) (hi : i < x.size) : bt x (i : Int) = 10 ↔ (bytesOf x)[i]? = some 10 := by
  have h : i < (bytesOf x).length := by rw [bytesOf_length]; exact hi
  rw [bt_get x i h, List.getElem?_eq_getElem h, Option.some.injEq]
theorem ls_ref (m : Nat) : ∀ (k : Nat) (x : ByteArray) (a : Int) (out : List Int) (fr i d : Nat), x.size ≤ 10000 → i + m = x.size → fr ≤ i → (∀ j, fr ≤ j → j < i → (bytesOf x)[j]? ≠ some 10) → x.size - fr ≤ d → out.length ≤ fr →
    0 ≤ a ∧ a ≤ 4294967295 → 400 + 2 * m < k → pascalineref06_Read.l0 k x a out (fr : Int) (i : Int) = some (ls_all d (x.extract fr x.size) a out) := by
  induction m with
  | zero =>
    intro k x a out fr i d hx hi hf hn hd ho ha hk
    obtain ⟨k, rfl⟩ : ∃ m, k = m + 1 := ⟨k - 1, by omega⟩
    simp only [pascalineref06_Read.l0]
    rw [if_neg (by omega)]
    have hL := bytesOf_length x
    by_cases h0 : fr < x.size
    · obtain ⟨d, rfl⟩ : ∃ m, d = m + 1 := ⟨d - 1, by omega⟩
      rw [if_pos (by omega), ls_w (by omega) (by omega), ls_all, if_neg (by rw [ByteArray.size_extract]; omega), ls_none, if_pos (by omega)]
      · rfl
      · intro j
        rw [ls_rest]
        by_cases hj : fr + j < i
        · exact hn _ (by omega) hj
        · rw [List.getElem?_eq_none (by omega)]; simp
    · rw [if_neg (by omega), ls_all_nil _ _ _ _ (by rw [ByteArray.size_extract]; omega)]
  | succ m ih =>
    intro k x a out fr i d hx hi hf hn hd ho ha hk
    have hL := bytesOf_length x
    have hbt := ls_bt x i (by omega)
    by_cases hb : bt x (i : Int) = 10
    · obtain ⟨k, rfl⟩ : ∃ m, k = m + 2 := ⟨k - 2, by omega⟩
      obtain ⟨d, rfl⟩ : ∃ m, d = m + 1 := ⟨d - 1, by omega⟩
      have hix : ct_ix (x.extract fr x.size) = ((i - fr : Nat) : Int) := by
        refine ls_ix _ _ ?_ (fun j hj => ?_)
        · rw [ls_rest, show fr + (i - fr) = i by omega]; exact hbt.1 hb
        · rw [ls_rest]; exact hn _ (by omega) (by omega)
      have e1 : (x.extract fr x.size).extract 0 (i - fr) = x.extract fr i := by
        apply bytesOf_inj
        rw [bytesOf_extract, bytesOf_extract, bytesOf_extract, List.take_of_length_le (l := bytesOf x) (by omega), List.drop_zero, List.drop_take]
      have e2 : (x.extract fr x.size).extract (i - fr + 1) (x.extract fr x.size).size = x.extract (i + 1) x.size := by
        apply bytesOf_inj
        rw [bytesOf_extract, List.take_of_length_le (by rw [bytesOf_length]; omega), bytesOf_extract, bytesOf_extract, List.take_of_length_le (l := bytesOf x) (by omega), List.drop_drop]
        congr 1; omega
      rw [ls_rline k (by omega) x (by omega) a ha out (by omega) fr i hf (by omega) hb, ls_all, if_neg (by rw [ByteArray.size_extract]; omega), hix, if_neg (by omega), Int.toNat_natCast, e1, e2]
      generalize hst : ls_step (x.extract fr i) a out.length = q
      cases q with
      | none => rfl
      | some q =>
        obtain ⟨a', w⟩ := q
        have hr := ls_step_range _ a out.length ha a' w hst
        exact ih k x a' (out ++ [w]) (i + 1) (i + 1) d hx (by omega) (by omega) (fun j h1 h2 => by omega) (by omega) (by rw [List.length_append]; simp only [List.length_cons, List.length_nil]; omega) hr (by omega)
    · obtain ⟨k, rfl⟩ : ∃ m, k = m + 1 := ⟨k - 1, by omega⟩
      simp only [pascalineref06_Read.l0]
      rw [if_pos (by omega), if_pos (by omega), if_neg hb, ls_w (by omega) (by omega)]
      refine ih k x a out fr (i + 1) d hx (by omega) (by omega) (fun j h1 h2 => ?_) hd ho ha (by omega)
      by_cases e : j = i
      · subst e; exact fun g => hb (hbt.2 g)
      · exact hn j h1 (by omega)
theorem ls_words (l : List Int) (hl : l.length ≤ 1000000) (d : Nat) : ∀ (k i : Nat), i + d = l.length → d < k → pascalineref01_Words.l0 k l l (i : Int) = some true := by
  induction d with
  | zero =>
    intro k i hi hk
    obtain ⟨k, rfl⟩ : ∃ m, k = m + 1 := ⟨k - 1, by omega⟩
    simp only [pascalineref01_Words.l0]
    rw [if_neg (by omega)]
  | succ d ih =>
    intro k i hi hk
    obtain ⟨k, rfl⟩ : ∃ m, k = m + 1 := ⟨k - 1, by omega⟩
    simp only [pascalineref01_Words.l0]
    rw [if_pos (by omega), if_pos (by omega), if_pos (by omega), if_pos trivial, ls_w (by omega) (by omega)]
    exact ih k (i + 1) (by omega) (by omega)
end Go.Proofs.Ytfagpgpeiomnpaa.Q

/- Listings: what is printed of words is read again. -/
namespace Go.Proofs.Ytfagpgpeiomnpaa.Q
set_option linter.unusedSimpArgs false
set_option linter.unusedVariables false
open Go Go.RowKit Go.Proofs.Ytfagpgpeiomnpaa.P Go.Proofs.Ytfagpgpeiomnpaa.C Go.Proofs.YtfagpgpeiomnpaaW.PrintWords

/-- No byte is a line's end. -/
def noNL (s : ByteArray) : Prop := ∀ c ∈ bytesOf s, c ≠ 10
theorem noNL_app {a b : ByteArray} (ha : noNL a) (hb : noNL b) : noNL (a ++ b) := by
  intro c hc
  rw [bytesOf_append, List.mem_append] at hc
  exact hc.elim (ha c) (hb c)
theorem noNL_nums (xs : List Int) (h : ∀ x ∈ xs, 0 ≤ x ∧ x < 256) (h2 : ∀ x ∈ xs, x ≠ 10) : noNL (strOfNums xs) := by
  intro c hc
  rw [bytesOf_nums xs h] at hc
  exact h2 c hc
theorem digs_no (b : Int) (hb : 2 ≤ b) : ∀ (f : Nat) (n : Int) (m : Nat), 0 ≤ n → ∀ x ∈ digs b f n m, x ≠ 10
  | 0, _, _, _, x, hx => by simp [digs] at hx
  | f + 1, n, m, hn, x, hx => by
    rw [digs_succ] at hx
    split at hx
    · rw [List.mem_append, List.mem_singleton] at hx
      rcases hx with h | h
      · exact digs_no b hb f (n / b) (m - 1) (Int.ediv_nonneg hn (by omega)) x h
      · have h1 : 0 ≤ n % b := Int.emod_nonneg _ (by omega)
        subst h
        unfold dg
        split <;> omega
    · simp at hx
theorem tx_no (n : Int) : noNL (tx n) := by
  refine noNL_nums _ (text_bytes n) (fun x hx => ?_)
  unfold textOf at hx
  split at hx
  · rcases List.mem_cons.1 hx with h | h
    · omega
    · exact digs_no 10 (by omega) _ _ _ (by omega) x h
  · exact digs_no 10 (by omega) _ _ _ (by omega) x hx
theorem hx_no (w : Int) (h : 0 ≤ w) : noNL (hx w) := by
  refine noNL_nums _ (fun x hx => ?_) (fun x hx => ?_)
  · exact digs_bytes 16 (by omega) _ _ _ h x hx
  · exact digs_no 16 (by omega) _ _ _ h x hx
theorem noNL_lit (s : ByteArray) (h : (bytesOf s).all (fun c => c != 10) = true) : noNL s := by
  intro c hc e
  have := List.all_eq_true.1 h c hc
  simp [e] at this
theorem rx_no (n : Int) : noNL (rx n) := noNL_app (noNL_lit _ (by decide)) (tx_no n)
theorem bx_no (op n : Int) : noNL (bx op n) := by
  unfold bx; split
  · exact tx_no n
  · exact rx_no n
theorem nm_no (i : Int) (h1 : 1 ≤ i) (h2 : i ≤ 34) : noNL (nm i) :=
  noNL_lit _ (of_fin (p := fun i => (bytesOf (nm i)).all (fun c => c != 10) = true) (by decide +kernel) i h1 h2)
theorem fieldsAt_no (s op a b c i : Int) : ∀ x ∈ fieldsAt s op a b c i, noNL x := by
  have h1 := rx_no a
  have h2 := bx_no op b
  have h3 := rx_no c
  have h4 := tx_no i
  unfold fieldsAt
  repeat' split
  all_goals (intro x hx; simp at hx)
  · rcases hx with rfl | rfl <;> assumption
  · rcases hx with rfl | rfl | rfl <;> assumption
  · rcases hx with rfl | rfl | rfl <;> assumption
  · subst hx; assumption
  · subst hx; assumption
theorem glue_no (L : List ByteArray) (hs : ∀ x ∈ L, noNL x) : ∀ (b : Bool) (s : ByteArray), noNL s → noNL (glue b s L) := by
  induction L with
  | nil => intro b s h; exact h
  | cons f t ih =>
    intro b s h
    unfold glue
    refine ih (fun x hx => hs x (List.mem_cons_of_mem _ hx)) false _ (noNL_app ?_ (noNL_app (noNL_lit _ (by decide)) (hs f List.mem_cons_self)))
    split
    · exact h
    · exact noNL_app h (noNL_lit _ (by decide))
theorem itext_no (op a b c i : Int) : noNL (itextOf op a b c i).1 := by
  unfold itextOf
  split
  · rename_i h
    have h1 := ((checkOf_ok op a b c i).1 h).1
    have h2 := shapeOf_op op h1
    exact glue_no _ (fieldsAt_no _ op a b c i) true _ (nm_no op (by omega) (by omega))
  · show noNL (⟨#[]⟩ : ByteArray)
    exact noNL_lit _ (by decide)
theorem lineAt_no (a w op x y z i e : Int) (ha : 0 ≤ a) (hw : 0 ≤ w) : noNL (lineAt a w op x y z i e) := by
  unfold lineAt
  refine noNL_app (noNL_app (noNL_app (noNL_app (hx_no a ha) (noNL_lit _ (by decide))) (hx_no w hw)) (noNL_lit _ (by decide))) ?_
  split
  · split
    · exact noNL_app (noNL_app (itext_no _ _ _ _ _) (noNL_lit _ (by decide))) (hx_no _ (lead_range a i).1)
    · exact itext_no _ _ _ _ _
  · exact noNL_lit _ (by decide)
theorem line_no (a w : Int) (ha : 0 ≤ a) (hw : 0 ≤ w) : noNL (lineOf a w) := lineAt_no _ _ _ _ _ _ _ _ ha hw
theorem lineAt_size (a w op x y z i e : Int) (ha : 0 ≤ a ∧ a ≤ 4294967295) (hw : 0 ≤ w ∧ w ≤ 4294967295) : (lineAt a w op x y z i e).size ≤ 430 := by
  have h1 := ls_hx a ha
  have h2 := ls_hx w hw
  have h3 := ls_hx (leadOf a i) (by have := lead_range a i; omega)
  have h4 := itext_size op x y z i
  have hs : sp.size = 1 := rfl
  have har : arrow.size = 4 := rfl
  have hq : (⟨#[63]⟩ : ByteArray).size = 1 := rfl
  unfold lineAt
  repeat' split
  all_goals simp only [ByteArray.size_append]; omega
theorem line_size (a w : Int) (ha : 0 ≤ a ∧ a ≤ 4294967295) (hw : 0 ≤ w ∧ w ≤ 4294967295) : (lineOf a w).size ≤ 430 := lineAt_size _ _ _ _ _ _ _ _ ha hw
/-- The lines of words. -/
def lnOf (a0 : Int) : List Int → Nat → List ByteArray
  | [], _ => []
  | x :: t, j => lineOf (lp_at a0 j) x :: lnOf a0 t (j + 1)
theorem lp_at_range (a0 : Int) (j : Nat) : 0 ≤ lp_at a0 j ∧ lp_at a0 j ≤ 4294967295 := by unfold lp_at; omega
def U32 (x : Int) : Prop := 0 ≤ x ∧ x ≤ 4294967295
theorem lines_eq (k : Nat) (hk : 70 ≤ k) (a0 : Int) : ∀ (l : List Int) (j : Nat), (∀ x ∈ l, U32 x) → lp_lines k a0 l j = some (lnOf a0 l j)
  | [], _, _ => rfl
  | x :: t, j, h => by
    have hx := h x List.mem_cons_self
    have hz := line_size (lp_at a0 j) x (lp_at_range a0 j) hx
    rw [lp_lines, line_eq k hk _ _ (lp_at_range a0 j) hx, Option.bind_some, if_pos (by omega), lines_eq k hk a0 t (j + 1) (fun y hy => h y (List.mem_cons_of_mem _ hy)), Option.bind_some]
    rfl
theorem ln_size (a0 : Int) : ∀ (l : List Int) (j : Nat), (∀ x ∈ l, U32 x) → (lp_bytes (lnOf a0 l j)).length ≤ 431 * l.length
  | [], _, _ => by simp [lnOf, lp_bytes]
  | x :: t, j, h => by
    have hx := h x List.mem_cons_self
    have hz := line_size (lp_at a0 j) x (lp_at_range a0 j) hx
    have ih := ln_size a0 t (j + 1) (fun y hy => h y (List.mem_cons_of_mem _ hy))
    have e : (lineOf (lp_at a0 j) x).data.toList.length = (lineOf (lp_at a0 j) x).size := data_length _
    unfold lp_bytes at ih ⊢
    simp only [lnOf, List.flatMap_cons, List.length_append, List.length_cons, List.length_nil]
    omega
theorem text_cons (s : ByteArray) (L : List ByteArray) : lp_text (s :: L) = s ++ (⟨#[10]⟩ : ByteArray) ++ lp_text L := by
  unfold lp_text lp_bytes
  apply ByteArray.ext
  apply Array.ext'
  simp [ByteArray.data_append]
theorem rprint_eq (k0 : Nat) (a0 : Int) (l : List Int) (hl : l.length ≤ 1000) (h : ∀ x ∈ l, U32 x) (d : Nat) : ∀ (k j : Nat) (s : ByteArray), l.length - j = d → j ≤ l.length → d + 100 < k → s.size + 431 * d ≤ 1000000 →
    pascalineref06_Print.l0 k a0 l s (j : Int) = some (s ++ lp_text (lnOf a0 (l.drop j) j)) := by
  induction d with
  | zero =>
    intro k j s hd hj hk hz
    obtain ⟨k, rfl⟩ : ∃ q, k = q + 1 := ⟨k - 1, by omega⟩
    rw [pascalineref06_Print.l0, if_neg (by omega), List.drop_eq_nil_of_le (by omega)]
    have : lp_text (lnOf a0 [] j) = ⟨#[]⟩ := rfl
    rw [this]
    congr 1
    apply ByteArray.ext
    simp
  | succ d ih =>
    intro k j s hd hj hk hz
    obtain ⟨k, rfl⟩ : ∃ q, k = q + 1 := ⟨k - 1, by omega⟩
    have hlt : j < l.length := by omega
    have hx := h l[j] (List.getElem_mem hlt)
    have ea : ((a0 + ((4 * (((j : Nat) : Int) % 4294967296)) % 4294967296)) % 4294967296) = lp_at a0 j := by unfold lp_at; omega
    have er : rd l (j : Int) = l[j] := by unfold rd; simp [hlt]
    have hsz := line_size (lp_at a0 j) l[j] (lp_at_range a0 j) hx
    have h1 : (⟨#[10]⟩ : ByteArray).size = 1 := rfl
    rw [pascalineref06_Print.l0, if_pos (by omega), if_pos (by omega), ea, er, rline_eq k (by omega) _ _ (lp_at_range a0 j) hx, Option.bind_some, if_pos (by omega), if_pos (by rw [ByteArray.size_append]; omega), wrap64_in (n := (j : Int) + 1) (by omega), show (j : Int) + 1 = ((j + 1 : Nat) : Int) by omega]
    rw [ih k (j + 1) _ (by omega) (by omega) (by omega) (by simp only [ByteArray.size_append]; omega), List.drop_eq_getElem_cons hlt]
    rw [lnOf, text_cons]
    congr 1
    simp only [ByteArray.append_assoc]
theorem ext_left (a b : ByteArray) : (a ++ b).extract 0 a.size = a := by
  apply bytesOf_inj
  rw [bytesOf_extract, bytesOf_append, List.drop_zero, List.take_left' (bytesOf_length a)]
theorem ext_right (a b : ByteArray) : (a ++ b).extract a.size (a ++ b).size = b := by
  apply bytesOf_inj
  rw [bytesOf_extract, bytesOf_append, List.take_of_length_le (by rw [List.length_append, bytesOf_length, bytesOf_length, ByteArray.size_append]; omega), List.drop_left' (bytesOf_length a)]
theorem hx_parse (w : Int) (h : U32 w) : parseHexOf (bytesOf (hx w)) = (w, true) := by
  unfold hx
  rw [bytesOf_nums (hexOf w) (fun x hx => digs_bytes 16 (by omega) _ _ _ h.1 x hx), parse_hex w ⟨h.1, by have := h.2; omega⟩]
theorem lineAt_cut (a w op x y z i e : Int) (ha : U32 a) (hw : U32 w) : (lineAt a w op x y z i e).extract 0 8 = hx a ∧ (lineAt a w op x y z i e).extract 9 17 = hx w := by
  have h1 := ls_hx a ha
  have h2 := ls_hx w hw
  have b1 : (bytesOf (hx a)).length = 8 := by rw [bytesOf_length, h1]
  have b2 : (bytesOf (hx w)).length = 8 := by rw [bytesOf_length, h2]
  have bs : bytesOf sp = [32] := by decide
  unfold lineAt
  generalize (if e = 0 then (if 20 ≤ op ∧ op ≤ 23 then (itextOf op x y z i).1 ++ arrow ++ hx (leadOf a i) else (itextOf op x y z i).1) else ⟨#[63]⟩ : ByteArray) = tl
  constructor
  · apply bytesOf_inj
    rw [bytesOf_extract, List.drop_zero]
    simp only [bytesOf_append, List.append_assoc]
    rw [List.take_left' b1]
  · apply bytesOf_inj
    rw [bytesOf_extract]
    simp only [bytesOf_append, List.append_assoc, bs]
    have e9 : bytesOf (hx a) ++ ([32] ++ (bytesOf (hx w) ++ ([32] ++ bytesOf tl))) = (bytesOf (hx a) ++ [32]) ++ (bytesOf (hx w) ++ ([32] ++ bytesOf tl)) := by simp
    rw [e9]
    have l9 : (bytesOf (hx a) ++ [32]).length = 9 := by rw [List.length_append, b1]; rfl
    rw [List.take_append, List.take_of_length_le (by omega), l9, List.take_left' (by omega : (bytesOf (hx w)).length = 17 - 9), List.drop_left' l9]
theorem step_eq (a0 a x : Int) (j : Nat) (ha : U32 a0) (hx : U32 x) (hj : j = 0 ∨ a = a0) : ls_step (lineOf (lp_at a0 j) x) a j = some (a0, x) := by
  have hr := lp_at_range a0 j
  have hz := ls_line (lp_at a0 j) x hr hx
  obtain ⟨c1, c2⟩ := lineAt_cut (lp_at a0 j) x (decOf x).1 (decOf x).2.1 (decOf x).2.2.1 (decOf x).2.2.2.1 (decOf x).2.2.2.2.1 (decOf x).2.2.2.2.2 hr hx
  have d1 : (lineOf (lp_at a0 j) x).extract 0 8 = Q.hx (lp_at a0 j) := c1
  have d2 : (lineOf (lp_at a0 j) x).extract 9 17 = Q.hx x := c2
  unfold ls_step
  rw [if_neg (by omega), d1, d2, hx_parse _ hr, hx_parse _ hx, if_pos ⟨rfl, rfl⟩]
  rcases hj with rfl | rfl
  · have e0 : lp_at a0 0 = a0 := by have := ha.1; have := ha.2; unfold lp_at; omega
    simp only [if_pos, e0]
    have e1 : (a0 + 4 * ((0 : Nat) : Int)) % 4294967296 = a0 := by have := ha.1; have := ha.2; omega
    rw [e1, if_pos rfl]
  · by_cases h0 : j = 0
    · subst h0
      have e0 : lp_at a 0 = a := by have := ha.1; have := ha.2; unfold lp_at; omega
      simp only [if_pos, e0]
      have e1 : (a + 4 * ((0 : Nat) : Int)) % 4294967296 = a := by have := ha.1; have := ha.2; omega
      rw [e1, if_pos rfl]
    · simp only [if_neg h0]
      rw [show (a + 4 * (j : Int)) % 4294967296 = lp_at a j from rfl, if_pos rfl]
theorem ix_line (s r : ByteArray) (h : noNL s) : ct_ix (s ++ (⟨#[10]⟩ : ByteArray) ++ r) = s.size := by
  have e : bytesOf (s ++ (⟨#[10]⟩ : ByteArray) ++ r) = bytesOf s ++ (10 :: bytesOf r) := by
    rw [bytesOf_append, bytesOf_append, show bytesOf (⟨#[10]⟩ : ByteArray) = [10] from by decide]; simp
  have hl := bytesOf_length s
  apply ls_ix
  · rw [e, List.getElem?_append_right (by omega), hl]; simp
  · intro j hj
    rw [e, List.getElem?_append_left (by omega), List.getElem?_eq_getElem (by omega)]
    intro e2
    injection e2 with e2
    exact h _ (List.getElem_mem _) e2
/-- The words are read again. -/
theorem all_eq (a0 : Int) (ha : U32 a0) : ∀ (l : List Int) (d : Nat) (a : Int) (out : List Int), (∀ x ∈ l, U32 x) → (lp_text (lnOf a0 l out.length)).size ≤ d → (out.length = 0 ∨ a = a0) →
    ls_all d (lp_text (lnOf a0 l out.length)) a out = (if l.length = 0 then a else a0, out ++ l, 0, 0)
  | [], d, a, out, _, _, _ => by
    rw [ls_all_nil d _ a out (by rfl)]
    simp
  | x :: t, d, a, out, h, hd, ho => by
    have hx := h x List.mem_cons_self
    have hr := lp_at_range a0 out.length
    have hz := ls_line (lp_at a0 out.length) x hr hx
    rw [lnOf, text_cons] at hd ⊢
    have e2 := step_eq a0 a x out.length ha hx ho
    have e3 := ix_line (lineOf (lp_at a0 out.length) x) (lp_text (lnOf a0 t (out.length + 1))) (line_no _ _ hr.1 hx.1)
    have h1 : (⟨#[10]⟩ : ByteArray).size = 1 := rfl
    obtain ⟨d, rfl⟩ : ∃ q, d = q + 1 := ⟨d - 1, by simp only [ByteArray.size_append] at hd; omega⟩
    have e4 : (lineOf (lp_at a0 out.length) x ++ (⟨#[10]⟩ : ByteArray) ++ lp_text (lnOf a0 t (out.length + 1))).extract 0 (lineOf (lp_at a0 out.length) x).size = lineOf (lp_at a0 out.length) x := by
      rw [ByteArray.append_assoc]; exact ext_left _ _
    have e5 : (lineOf (lp_at a0 out.length) x ++ (⟨#[10]⟩ : ByteArray) ++ lp_text (lnOf a0 t (out.length + 1))).extract ((lineOf (lp_at a0 out.length) x).size + 1) (lineOf (lp_at a0 out.length) x ++ (⟨#[10]⟩ : ByteArray) ++ lp_text (lnOf a0 t (out.length + 1))).size = lp_text (lnOf a0 t (out.length + 1)) := by
      have := ext_right (lineOf (lp_at a0 out.length) x ++ (⟨#[10]⟩ : ByteArray)) (lp_text (lnOf a0 t (out.length + 1)))
      rw [ByteArray.size_append (a := lineOf (lp_at a0 out.length) x), h1] at this
      exact this
    rw [ls_all, if_neg (by simp only [ByteArray.size_append]; omega), e3, if_neg (by omega), Int.toNat_natCast, e4, e5, e2]
    have ih := all_eq a0 ha t d a0 (out ++ [x]) (fun y hy => h y (List.mem_cons_of_mem _ hy)) (by simp only [ByteArray.size_append] at hd; rw [List.length_append]; show (lp_text (lnOf a0 t (out.length + 1))).size ≤ d; omega) (.inr rfl)
    rw [List.length_append] at ih
    simp only [List.length_cons, List.length_nil] at ih
    show ls_all d (lp_text (lnOf a0 t (out.length + 1))) a0 (out ++ [x]) = _
    rw [ih]
    simp
end Go.Proofs.Ytfagpgpeiomnpaa.Q

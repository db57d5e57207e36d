/- Fields of instructions, read from texts: what the printed functions of instr and of its reference answer. -/
import Derived.Test.YtmajngcgejkghaaPx30
import Derived.Test.YtmajngcgejkghaaPx38
import Derived.Test.YtmajngcgejkghaaPx42
import Derived.Test.YtmajngcgejkghaaQITxt
import Derived.Test.YtmajngcgejkghaaQParse
namespace Go.Proofs.Ytmajngcgejkghaa.Q
set_option linter.unusedSimpArgs false
set_option linter.unusedVariables false
open Go Go.RowKit Go.Proofs.Ytmajngcgejkghaa.P Go.Proofs.Ytmajngcgejkghaa.C Go.Proofs.YtmajngcgejkghaaW.PrintWords

def I64 (a : Int) : Prop := -9223372036854775808 ≤ a ∧ a ≤ 9223372036854775807
theorem text_at (k : Nat) (hk : 30 ≤ k) (op a b c i : Int) (ha : I64 a) (hb : I64 b) (hc : I64 c) (hi : I64 i) : instr_Text.f k op a b c i = some (itextOf op a b c i) := by
  unfold instr_Text.f itextOf
  rw [check_eq k (by omega)]
  simp only [Option.bind_some]
  by_cases h : checkOf op a b c i = 0
  · rw [if_pos h, if_pos h]
    have h1 := ((checkOf_ok op a b c i).1 h).1
    have h2 := shapeOf_op op h1
    rw [name_eq op h2.1 h2.2]
    simp only [Option.bind_some]
    rw [fields_eq k (by omega) op a b c i ha hb hc hi]
    simp only [Option.bind_some]
    have h3 := nm_size op h2.1 h2.2
    have h4 := fieldsAt_size (shapeOf op) op a b c i
    exact text_loop (fieldsOf op a b c i) (Nat.le_trans h4.1 (by omega)) h4.2 _ k 0 (nm op) rfl (by omega) (by have := h4.1; unfold fieldsOf; omega) (by have := h4.1; unfold fieldsOf; omega)
  · rw [if_neg h, if_neg h]
theorem rtext_at (k : Nat) (hk : 30 ≤ k) (op a b c i : Int) (ha : I64 a) (hb : I64 b) (hc : I64 c) (hi : I64 i) : pascalineref02_Text.f k op a b c i = some (itextOf op a b c i) := by
  unfold pascalineref02_Text.f itextOf
  rw [rcheck_eq k (by omega)]
  simp only [Option.bind_some]
  by_cases h : checkOf op a b c i = 0
  · rw [if_pos h, if_pos h]
    have h1 := ((checkOf_ok op a b c i).1 h).1
    have h2 := shapeOf_op op h1
    rw [rname_eq op h2.1 h2.2]
    simp only [Option.bind_some]
    rw [rfields_eq k (by omega) op a b c i (by omega) ha hb hc hi]
    simp only [Option.bind_some]
    have h3 := nm_size op h2.1 h2.2
    have h4 := fieldsAt_size (shapeOf op) op a b c i
    exact rtext_loop (fieldsOf op a b c i) (Nat.le_trans h4.1 (by omega)) h4.2 _ k 0 (nm op) rfl (by omega) (by have := h4.1; unfold fieldsOf; omega) (by have := h4.1; unfold fieldsOf; omega)
  · rw [if_neg h, if_neg h]

/-- A text's number. -/
def pn (x : ByteArray) : Int × Bool := parseOf (bytesOf x)
/-- A register's number, by its form alone. -/
def rn (x : ByteArray) : Int × Bool := if (bytesOf x).head? = some 114 then parseOf (bytesOf x).tail else (0, false)
theorem parseOf_range (bs : List Int) : -2147483648 ≤ (parseOf bs).1 ∧ (parseOf bs).1 ≤ 2147483647 := by
  unfold parseOf
  split
  · rename_i h; exact h.2.2
  · simp
theorem parseOf_nil : parseOf [] = (0, false) := by decide
theorem rn_range (x : ByteArray) : -2147483648 ≤ (rn x).1 ∧ (rn x).1 ≤ 2147483647 := by
  unfold rn
  split
  · exact parseOf_range _
  · simp
theorem head_bt (x : ByteArray) (h : 0 < x.size) : ((bytesOf x).head? = some 114) ↔ bt x 0 = 114 := by
  have hlt : 0 < (bytesOf x).length := by rw [bytesOf_length]; exact h
  have hb : bt x 0 = (bytesOf x)[0] := bt_get x 0 hlt
  rw [hb, List.head?_eq_getElem?, List.getElem?_eq_getElem hlt]
  simp
theorem register_eq (k : Nat) (x : ByteArray) (hk : x.size + 10 < k) : instr_register.f k x = some ((rn x).1, (rn x).2 && decide (0 ≤ (rn x).1 ∧ (rn x).1 < 16)) := by
  unfold instr_register.f
  by_cases h : (x.size : Int) < 2
  · rw [if_pos h]
    have e : rn x = (0, false) := by
      unfold rn
      split
      · rename_i hh
        have hl := bytesOf_length x
        have : (bytesOf x).tail = [] := List.eq_nil_of_length_eq_zero (by rw [List.length_tail]; omega)
        rw [this, parseOf_nil]
      · rfl
    rw [e]; rfl
  · rw [if_neg h, if_pos (by omega)]
    by_cases h2 : bt x 0 = 114
    · have hsz : (x.extract 1 x.size).size ≤ x.size := by rw [ByteArray.size_extract]; omega
      rw [if_pos h2, if_pos (by omega), word_parse_eq k _ (by omega), Option.bind_some, bytesOf_tail]
      have e : rn x = parseOf (bytesOf x).tail := by unfold rn; rw [if_pos ((head_bt x (by omega)).2 h2)]
      rw [← e]
      have hr := rn_range x
      have hw : wrap64 (rn x).1 = (rn x).1 := wrap64_in (by omega)
      rw [hw]
      cases hb : (rn x).2 with
      | false => simp
      | true =>
        rw [if_pos rfl]
        by_cases h0 : 0 ≤ (rn x).1
        · rw [if_pos h0]
          simp [h0]
        · rw [if_neg h0]
          simp [h0]
    · rw [if_neg h2]
      have e : rn x = (0, false) := by unfold rn; rw [if_neg (fun hh => h2 ((head_bt x (by omega)).1 hh))]
      rw [e]; rfl
theorem extract_all (x : ByteArray) : x.extract 0 x.size = x := by
  apply bytesOf_inj
  rw [bytesOf_extract, List.take_of_length_le (by rw [bytesOf_length]; omega), List.drop_zero]
theorem number_e (k : Nat) (x : ByteArray) (hk : 40 < k) : pascalineref02_number.f k rf_e x = some (pn x) := by
  unfold pascalineref02_number.f
  have z : (rf_e.size : Int) = 0 := rfl
  rw [if_neg (by omega), if_pos (by omega), if_pos (by omega)]
  rw [if_pos (show (x.extract 0 ((rf_e.size : Int) : Int).toNat).toList = rf_e.toList from by
    rw [z, toList_inj]; apply bytesOf_inj; rw [bytesOf_extract]; rfl)]
  rw [z, show ((0 : Int).toNat) = 0 from rfl, extract_all, ref_parse_eq k x (by omega), Option.bind_some]
  have hr := parseOf_range (bytesOf x)
  rw [wrap64_in (by omega)]
  rfl
theorem number_r (k : Nat) (x : ByteArray) (hk : 40 < k) : pascalineref02_number.f k rf_r x = some (rn x) := by
  unfold pascalineref02_number.f
  have z : (rf_r.size : Int) = 1 := rfl
  have hl := bytesOf_length x
  by_cases h : (x.size : Int) < 1
  · rw [if_pos (by omega)]
    have : bytesOf x = [] := List.eq_nil_of_length_eq_zero (by omega)
    unfold rn; rw [this]; rfl
  · rw [if_neg (by omega), if_pos (by omega), if_pos (by omega), z, show ((1 : Int).toNat) = 1 from rfl]
    have hlt : 0 < (bytesOf x).length := by omega
    have hx : bytesOf (x.extract 0 1) = [(bytesOf x)[0]] := by
      rw [bytesOf_extract, List.drop_zero]
      match hb : bytesOf x, hlt with
      | y :: t, _ => simp
    have hr : bytesOf rf_r = [114] := by decide
    have key : (x.extract 0 1).toList = rf_r.toList ↔ (bytesOf x).head? = some 114 := by
      rw [toList_inj]
      constructor
      · intro e
        have e2 : bytesOf (x.extract 0 1) = bytesOf rf_r := by rw [e]
        rw [hx, hr] at e2
        rw [List.head?_eq_getElem?, List.getElem?_eq_getElem hlt]
        simp at e2
        rw [e2]
      · intro e
        apply bytesOf_inj
        rw [hx, hr]
        rw [List.head?_eq_getElem?, List.getElem?_eq_getElem hlt] at e
        simp at e
        rw [e]
    by_cases h2 : (bytesOf x).head? = some 114
    · rw [if_pos (key.2 h2), ref_parse_eq k _ (by omega), Option.bind_some, bytesOf_tail]
      have e : rn x = parseOf (bytesOf x).tail := by unfold rn; rw [if_pos h2]
      rw [← e]
      have hr := rn_range x
      rw [wrap64_in (by omega)]
    · rw [if_neg (fun hh => h2 (key.1 hh))]
      unfold rn; rw [if_neg h2]
/-- The value of a field's text, by the field's place. -/
def fv (p : Nat) (op : Int) (x : ByteArray) : Int × Bool := if fi_num p op = true then pn x else rn x
/-- Which the code takes. -/
def fok (p : Nat) (op : Int) (x : ByteArray) : Bool := (fv p op x).2 && (fi_num p op || decide (0 ≤ (fv p op x).1 ∧ (fv p op x).1 < 16))
theorem go_step (k : Nat) (op : Int) (l : List ByteArray) (p : Nat) (ps : List Nat) (j : Nat) (a b c i : Int) (x : ByteArray) (hx : rdOf ByteArray.empty l (j : Int) = x) (hk : x.size + 50 < k) :
    instr_Fill.go k op l (p :: ps) j a b c i = if fok p op x = true then instr_Fill.go k op l ps (j + 1) (fi_put p (fv p op x).1 a b c i).1 (fi_put p (fv p op x).1 a b c i).2.1 (fi_put p (fv p op x).1 a b c i).2.2.1 (fi_put p (fv p op x).1 a b c i).2.2.2 else some none := by
  rw [instr_Fill.go, hx, word_parse_eq k x (by omega), register_eq k x (by omega)]
  simp only [Option.bind_some]
  have hr := parseOf_range (bytesOf x)
  rw [wrap64_in (n := (parseOf (bytesOf x)).1) (by omega)]
  by_cases h : fi_num p op = true
  · have e : fv p op x = parseOf (bytesOf x) := by unfold fv pn; rw [if_pos h]
    unfold fok
    rw [if_pos h, h, e]
    simp
  · have e : fv p op x = rn x := by unfold fv; rw [if_neg h]
    unfold fok
    rw [if_neg h, e]
    have h' : fi_num p op = false := by simpa using h
    rw [h']
    simp
def hd (p : Nat) (op : Int) : ByteArray := if fi_num p op = true then rf_e else rf_r
theorem rgo_step (k : Nat) (op : Int) (l : List ByteArray) (p : Nat) (t : List ByteArray) (j : Nat) (ns : List Int) (x : ByteArray) (hx : rdOf ByteArray.empty l (j : Int) = x) (hk : 50 < k) :
    rf_go k l (hd p op :: t) j ns = if (fv p op x).2 = true then rf_go k l t (j + 1) (ns.set j (fv p op x).1) else some none := by
  rw [rf_go, hx]
  unfold hd fv
  by_cases h : fi_num p op = true
  · rw [if_pos h, if_pos h, number_e k x (by omega)]; rfl
  · rw [if_neg h, if_neg h, number_r k x (by omega)]; rfl
theorem hd1 (op : Int) : rf_r = hd 1 op := by unfold hd fi_num; simp
theorem hd3 (op : Int) : rf_r = hd 3 op := by unfold hd fi_num; simp
theorem hd4 (op : Int) : rf_e = hd 4 op := by unfold hd fi_num; simp
theorem hd2 (op : Int) : rf_b op = hd 2 op := by
  unfold hd fi_num rf_b
  by_cases h : op = 26
  · subst h; rfl
  · rw [if_neg h, if_neg (by simp [h])]
abbrev Six := Int × Int × Int × Int × Int × Bool
def same (r r' : Six) : Prop := r.2.2.2.2.2 = r'.2.2.2.2.2 ∧ (r.2.2.2.2.2 = true → r = r')
/-- Both ways end alike: the code by what it takes, the reference by what it reads. -/
theorem same_end (op a b c i : Int) (oc orf : Bool) (h1 : oc = true → orf = true) (h2 : orf = true → oc = false → checkOf op a b c i ≠ 0) :
    same (if oc = true then (op, a, b, c, i, decide (checkOf op a b c i = 0)) else fi_no) (if orf = true then (op, a, b, c, i, decide (checkOf op a b c i = 0)) else (op, 0, 0, 0, 0, false)) := by
  cases oc <;> cases orf
  · exact ⟨rfl, fun h => by cases h⟩
  · have := h2 rfl rfl
    refine ⟨?_, fun h => by cases h⟩
    simp [fi_no, this]
  · have := h1 rfl; cases this
  · exact ⟨rfl, fun _ => rfl⟩
theorem fok_fv (p : Nat) (op : Int) (x : ByteArray) (h : fok p op x = true) : (fv p op x).2 = true := by
  unfold fok at h; simp at h; exact h.1
theorem fok_no (p : Nat) (op : Int) (x : ByteArray) (h : fok p op x = false) (hv : (fv p op x).2 = true) : ¬ (0 ≤ (fv p op x).1 ∧ (fv p op x).1 ≤ 15) := by
  unfold fok at h; rw [hv] at h; simp at h; omega
theorem fok_num (p : Nat) (op : Int) (x : ByteArray) (hn : fi_num p op = true) : fok p op x = (fv p op x).2 := by
  unfold fok; rw [hn]; simp
end Go.Proofs.Ytmajngcgejkghaa.Q

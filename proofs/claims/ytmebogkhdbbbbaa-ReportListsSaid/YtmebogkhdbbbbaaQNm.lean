/- Names of operations, by their numbers: what the printed functions of instr and of its reference answer. -/
import Derived.Test.YtmebogkhdbbbbaaPx34
import Derived.Test.YtmebogkhdbbbbaaPx49
import Derived.Test.YtmebogkhdbbbbaaQSext
import Derived.Test.YtmebogkhdbbbbaaCText
import Derived.Test.YtmebogkhdbbbbaaPx25
import Derived.Test.YtmebogkhdbbbbaaPx41
import Derived.Test.YtmebogkhdbbbbaaQTx
namespace Go.Proofs.Ytmebogkhdbbbbaa.Q
set_option linter.unusedSimpArgs false
set_option linter.unusedVariables false
open Go Go.RowKit Go.Proofs.Ytmebogkhdbbbbaa.P Go.Proofs.Ytmebogkhdbbbbaa.C Go.Proofs.YtmebogkhdbbbbaaW.PrintWords

def nmL : List ByteArray := (instr_names.f).getD []
def nm (i : Int) : ByteArray := rdOf ByteArray.empty nmL i
theorem names_eq : instr_names.f = some nmL := rfl
theorem nmL_len : nmL.length = 35 := by decide +kernel
theorem of_fin {p : Int → Prop} (h : ∀ j : Fin 34, p ((j.val : Int) + 1)) (i : Int) (h1 : 1 ≤ i) (h2 : i ≤ 34) : p i := by
  have := h ⟨(i - 1).toNat, by omega⟩
  simp only at this
  rw [show (((i - 1).toNat : Nat) : Int) + 1 = i by omega] at this
  exact this
theorem name_eq (i : Int) (h1 : 1 ≤ i) (h2 : i ≤ 34) : instr_Name.f i = some (nm i) :=
  of_fin (p := fun i => instr_Name.f i = some (nm i)) (by decide +kernel) i h1 h2
theorem rname_eq (i : Int) (h1 : 1 ≤ i) (h2 : i ≤ 34) : pascalineref02_Name.f i = some (nm i) :=
  of_fin (p := fun i => pascalineref02_Name.f i = some (nm i)) (by decide +kernel) i h1 h2
theorem name_out (i : Int) (h : ¬ (1 ≤ i ∧ i ≤ 34)) : instr_Name.f i = some ⟨#[]⟩ := by
  unfold instr_Name.f
  by_cases h1 : i < 1
  · rw [if_pos h1]
  · rw [if_neg h1, if_pos (by omega)]
theorem rname_out (i : Int) (h : ¬ (1 ≤ i ∧ i ≤ 34)) : pascalineref02_Name.f i = some ⟨#[]⟩ := by
  unfold pascalineref02_Name.f
  simp only [Option.bind_some]
  by_cases h1 : i < 1
  · rw [if_pos h1]
  · rw [if_neg h1, if_pos (by omega)]
theorem nm_inj (i j : Int) (h1 : 1 ≤ i) (h2 : i ≤ 34) (h3 : 1 ≤ j) (h4 : j ≤ 34) (h : (nm i).toList = (nm j).toList) : i = j := by
  refine of_fin (p := fun i => (nm i).toList = (nm j).toList → i = j) ?_ i h1 h2 h
  intro a
  exact of_fin (p := fun j => (nm ((a.val : Int) + 1)).toList = (nm j).toList → (a.val : Int) + 1 = j) (by revert a; decide +kernel) j h3 h4
end Go.Proofs.Ytmebogkhdbbbbaa.Q

/- Texts of instructions: what the printed functions of instr and of its reference answer. -/
namespace Go.Proofs.Ytmebogkhdbbbbaa.Q
set_option linter.unusedSimpArgs false
set_option linter.unusedVariables false
open Go Go.RowKit Go.Proofs.Ytmebogkhdbbbbaa.P Go.Proofs.Ytmebogkhdbbbbaa.C Go.Proofs.YtmebogkhdbbbbaaW.PrintWords

def tx (n : Int) : ByteArray := strOfNums (textOf n)
def rx (n : Int) : ByteArray := (⟨#[114]⟩ : ByteArray) ++ tx n
def bx (op n : Int) : ByteArray := if op = 26 then tx n else rx n
def fieldsAt (s op a b c i : Int) : List ByteArray :=
  if s = 1 ∨ s = 2 then [rx a, tx i] else if s = 3 ∨ s = 4 then [rx a, bx op b, tx i] else if s = 5 then [rx a, bx op b, rx c]
  else if s = 6 then [rx a] else if s = 7 ∨ s = 8 then [tx i] else []
def fieldsOf (op a b c i : Int) : List ByteArray := fieldsAt (shapeOf op) op a b c i
theorem tx_size (n : Int) : (tx n).size ≤ 100 := by
  unfold tx
  rw [strOfNums_size]
  unfold textOf
  have h1 := digs_length 10 65 (-n) 1
  have h2 := digs_length 10 65 n 1
  split
  · simp only [List.length_cons]; omega
  · omega
theorem rx_size (n : Int) : (rx n).size ≤ 101 := by
  unfold rx
  rw [ByteArray.size_append, show (⟨#[114]⟩ : ByteArray).size = 1 from rfl]
  have := tx_size n
  omega
theorem bx_size (op n : Int) : (bx op n).size ≤ 101 := by
  unfold bx; split
  · have := tx_size n; omega
  · exact rx_size n
theorem fieldsAt_size (s op a b c i : Int) : (fieldsAt s op a b c i).length ≤ 3 ∧ ∀ x ∈ fieldsAt s op a b c i, x.size ≤ 101 := by
  have h1 := rx_size a
  have h2 := bx_size op b
  have h3 := rx_size c
  have h4 := tx_size i
  unfold fieldsAt
  repeat' split
  all_goals (refine ⟨by simp, fun x hx => ?_⟩; simp at hx)
  · rcases hx with rfl | rfl <;> omega
  · rcases hx with rfl | rfl | rfl <;> omega
  · rcases hx with rfl | rfl | rfl <;> omega
  · subst hx; omega
  · subst hx; omega
theorem shape_9 (s : Int) (h : -1 ≤ s ∧ s ≤ 8) : s = -1 ∨ s = 0 ∨ s = 1 ∨ s = 2 ∨ s = 3 ∨ s = 4 ∨ s = 5 ∨ s = 6 ∨ s = 7 ∨ s = 8 := by omega
theorem fields_at (m : Nat) (s op a b c i : Int) (hs : -1 ≤ s ∧ s ≤ 8) (h : ∀ k, 10 ≤ k → instr_Shape.f k op = some s)
    (ha : -9223372036854775808 ≤ a ∧ a ≤ 9223372036854775807) (hb : -9223372036854775808 ≤ b ∧ b ≤ 9223372036854775807) (hc : -9223372036854775808 ≤ c ∧ c ≤ 9223372036854775807) (hi : -9223372036854775808 ≤ i ∧ i ≤ 9223372036854775807) :
    instr_fields.f (m + 20) op a b c i = some (fieldsAt s op a b c i) := by
  unfold instr_fields.f
  rw [word_text_eq a ha, word_text_eq b hb, word_text_eq c hc, word_text_eq i hi]
  have g1 := tx_size a
  have g2 := tx_size b
  have g3 := tx_size c
  unfold tx at g1 g2 g3
  simp only [Option.bind_some]
  rw [if_pos (by omega), if_pos (by omega), if_pos (by omega)]
  simp only [instr_fields.j0, h (m + 19) (by omega), Option.bind_some, instr_fields.j1, instr_fields.j2]
  unfold fieldsAt bx rx tx
  by_cases ho : op = 26
  · rw [if_pos ho, if_pos ho]
    rcases shape_9 s hs with rfl | rfl | rfl | rfl | rfl | rfl | rfl | rfl | rfl | rfl <;> simp
  · rw [if_neg ho, if_neg ho]
    rcases shape_9 s hs with rfl | rfl | rfl | rfl | rfl | rfl | rfl | rfl | rfl | rfl <;> simp
theorem fields_eq (k : Nat) (hk : 20 ≤ k) (op a b c i : Int)
    (ha : -9223372036854775808 ≤ a ∧ a ≤ 9223372036854775807) (hb : -9223372036854775808 ≤ b ∧ b ≤ 9223372036854775807) (hc : -9223372036854775808 ≤ c ∧ c ≤ 9223372036854775807) (hi : -9223372036854775808 ≤ i ∧ i ≤ 9223372036854775807) :
    instr_fields.f k op a b c i = some (fieldsOf op a b c i) := by
  obtain ⟨m, rfl⟩ : ∃ m, k = m + 20 := ⟨k - 20, by omega⟩
  exact fields_at m (shapeOf op) op a b c i (shapeOf_range op) (fun k hk => shape_eq k op hk) ha hb hc hi
theorem rfields_at (m : Nat) (s op a b c i : Int) (hs : -1 ≤ s ∧ s ≤ 8) (hn : s ≠ -1) (h : ∀ k, 10 ≤ k → pascalineref02_Shape.f k op = some s)
    (ha : -9223372036854775808 ≤ a ∧ a ≤ 9223372036854775807) (hb : -9223372036854775808 ≤ b ∧ b ≤ 9223372036854775807) (hc : -9223372036854775808 ≤ c ∧ c ≤ 9223372036854775807) (hi : -9223372036854775808 ≤ i ∧ i ≤ 9223372036854775807) :
    pascalineref02_Fields.f (m + 20) op a b c i = some (fieldsAt s op a b c i) := by
  unfold pascalineref02_Fields.f pascalineref02_has.f
  rw [h (m + 20) (by omega), ref_text_eq a ha]
  have g1 := tx_size a
  have g2 := tx_size b
  have g3 := tx_size c
  unfold tx at g1 g2 g3
  simp only [pascalineref02_Fields.j0, pascalineref02_Fields.j1, pascalineref02_Fields.j2, h (m + 17) (by omega), ref_text_eq b hb, ref_text_eq c hc, ref_text_eq i hi, Option.bind_some]
  simp only [if_pos (show 1 + (strOfNums (textOf a)).size ≤ 9223372036854775807 by omega), if_pos (show 1 + (strOfNums (textOf b)).size ≤ 9223372036854775807 by omega), if_pos (show 1 + (strOfNums (textOf c)).size ≤ 9223372036854775807 by omega)]
  unfold fieldsAt bx rx tx
  by_cases ho : op = 26
  · simp only [if_pos ho]
    rcases shape_9 s hs with rfl | rfl | rfl | rfl | rfl | rfl | rfl | rfl | rfl | rfl <;> simp at hn ⊢
  · simp only [if_neg ho]
    rcases shape_9 s hs with rfl | rfl | rfl | rfl | rfl | rfl | rfl | rfl | rfl | rfl <;> simp at hn ⊢
theorem rfields_eq (k : Nat) (hk : 20 ≤ k) (op a b c i : Int) (hn : shapeOf op ≠ -1)
    (ha : -9223372036854775808 ≤ a ∧ a ≤ 9223372036854775807) (hb : -9223372036854775808 ≤ b ∧ b ≤ 9223372036854775807) (hc : -9223372036854775808 ≤ c ∧ c ≤ 9223372036854775807) (hi : -9223372036854775808 ≤ i ∧ i ≤ 9223372036854775807) :
    pascalineref02_Fields.f k op a b c i = some (fieldsOf op a b c i) := by
  obtain ⟨m, rfl⟩ : ∃ m, k = m + 20 := ⟨k - 20, by omega⟩
  exact rfields_at m (shapeOf op) op a b c i (shapeOf_range op) hn (fun k hk => rshape_eq k op hk) ha hb hc hi
def glue : Bool → ByteArray → List ByteArray → ByteArray
  | _, s, [] => s
  | b, s, f :: t => glue false ((if b then s else s ++ (⟨#[44]⟩ : ByteArray)) ++ ((⟨#[32]⟩ : ByteArray) ++ f)) t
theorem size1 (x : UInt8) : (⟨#[x]⟩ : ByteArray).size = 1 := rfl
theorem rdOf_at (L : List ByteArray) (j : Nat) (h : j < L.length) : rdOf ByteArray.empty L (j : Int) = L[j] := by
  unfold rdOf; simp [h]
theorem text_loop (L : List ByteArray) (hL : L.length ≤ 100) (hs : ∀ x ∈ L, x.size ≤ 101) (d : Nat) : ∀ (k j : Nat) (s : ByteArray), L.length - j = d → j ≤ L.length → d < k → s.size + 200 * d ≤ 1000000 →
    instr_Text.l0 k s L (L.length : Int) (j : Int) = some (glue (j == 0) s (L.drop j), 0) := by
  induction d with
  | zero =>
    intro k j s hd hj hk hz
    obtain ⟨k, rfl⟩ : ∃ q, k = q + 1 := ⟨k - 1, by omega⟩
    rw [instr_Text.l0, if_neg (by omega), List.drop_eq_nil_of_le (by omega)]; rfl
  | succ d ih =>
    intro k j s hd hj hk hz
    obtain ⟨k, rfl⟩ : ∃ q, k = q + 1 := ⟨k - 1, by omega⟩
    have hlt : j < L.length := by omega
    have hx : (L[j]).size ≤ 101 := hs _ (List.getElem_mem hlt)
    rw [instr_Text.l0, if_pos (by omega), if_pos (by omega), if_pos (by omega), rdOf_at L j hlt, List.drop_eq_getElem_cons hlt, wrap64_in (n := (j : Int) + 1) (by omega), show (j : Int) + 1 = ((j + 1 : Nat) : Int) by omega]
    by_cases h : j = 0
    · subst h
      rw [if_neg (by omega), if_pos (by omega), if_pos (by rw [ByteArray.size_append, size1]; omega)]
      rw [ih k 1 _ (by omega) (by omega) (by omega) (by simp only [ByteArray.size_append, size1]; omega)]
      rfl
    · rw [if_pos (by omega), if_pos (by omega), if_pos (by omega), if_pos (by simp only [ByteArray.size_append, size1]; omega)]
      rw [ih k (j + 1) _ (by omega) (by omega) (by omega) (by simp only [ByteArray.size_append, size1]; omega)]
      rw [show (j == 0) = false by simp [h], show (j + 1 == 0) = false by simp]
      rfl
theorem rtext_loop (L : List ByteArray) (hL : L.length ≤ 100) (hs : ∀ x ∈ L, x.size ≤ 101) (d : Nat) : ∀ (k j : Nat) (s : ByteArray), L.length - j = d → j ≤ L.length → d < k → s.size + 200 * d ≤ 1000000 →
    pascalineref02_Text.l0 k s L (j : Int) = some (glue (j == 0) s (L.drop j), 0) := by
  induction d with
  | zero =>
    intro k j s hd hj hk hz
    obtain ⟨k, rfl⟩ : ∃ q, k = q + 1 := ⟨k - 1, by omega⟩
    rw [pascalineref02_Text.l0, if_neg (by omega), List.drop_eq_nil_of_le (by omega)]; rfl
  | succ d ih =>
    intro k j s hd hj hk hz
    obtain ⟨k, rfl⟩ : ∃ q, k = q + 1 := ⟨k - 1, by omega⟩
    have hlt : j < L.length := by omega
    have hx : (L[j]).size ≤ 101 := hs _ (List.getElem_mem hlt)
    rw [pascalineref02_Text.l0, if_pos (by omega), rdOf_at L j hlt, List.drop_eq_getElem_cons hlt, wrap64_in (n := (j : Int) + 1) (by omega), show (j : Int) + 1 = ((j + 1 : Nat) : Int) by omega]
    by_cases h : j = 0
    · subst h
      rw [if_neg (by omega), if_pos (by omega), if_pos (by omega), if_pos (by simp only [ByteArray.size_append, size1]; omega)]
      rw [ih k 1 _ (by omega) (by omega) (by omega) (by simp only [ByteArray.size_append, size1]; omega), ByteArray.append_assoc]
      rfl
    · rw [if_pos (by omega), if_pos (by omega), if_pos (by simp only [ByteArray.size_append, size1]; omega), if_pos (by omega), if_pos (by simp only [ByteArray.size_append, size1]; omega)]
      rw [ih k (j + 1) _ (by omega) (by omega) (by omega) (by simp only [ByteArray.size_append, size1]; omega), ByteArray.append_assoc]
      rw [show (j == 0) = false by simp [h], show (j + 1 == 0) = false by simp]
      rfl
def itextOf (op a b c i : Int) : ByteArray × Int := if checkOf op a b c i = 0 then (glue true (nm op) (fieldsOf op a b c i), 0) else (⟨#[]⟩, checkOf op a b c i)
theorem nm_size (i : Int) (h1 : 1 ≤ i) (h2 : i ≤ 34) : (nm i).size ≤ 10 :=
  of_fin (p := fun i => (nm i).size ≤ 10) (by decide +kernel) i h1 h2
theorem glue_size (L : List ByteArray) (hs : ∀ x ∈ L, x.size ≤ 101) : ∀ (b : Bool) (s : ByteArray), (glue b s L).size ≤ s.size + 103 * L.length := by
  induction L with
  | nil => intro b s; simp [glue]
  | cons f t ih =>
    intro b s
    have h1 := ih (fun x hx => hs x (List.mem_cons_of_mem _ hx)) false ((if b then s else s ++ (⟨#[44]⟩ : ByteArray)) ++ ((⟨#[32]⟩ : ByteArray) ++ f))
    have h2 := hs f List.mem_cons_self
    unfold glue
    refine Nat.le_trans h1 ?_
    cases b <;> simp only [ByteArray.size_append, size1, List.length_cons, if_true, Bool.false_eq_true, if_false] <;> omega
theorem itext_size (op a b c i : Int) : (itextOf op a b c i).1.size ≤ 400 := by
  unfold itextOf
  split
  · rename_i h
    have h1 := ((checkOf_ok op a b c i).1 h).1
    have h2 := shapeOf_op op h1
    have h3 := nm_size op (by omega) (by omega)
    have h4 := fieldsAt_size (shapeOf op) op a b c i
    have h5 := glue_size (fieldsOf op a b c i) h4.2 true (nm op)
    have h6 : (fieldsOf op a b c i).length ≤ 3 := h4.1
    show (glue true (nm op) (fieldsOf op a b c i)).size ≤ 400
    omega
  · simp [ByteArray.size]
end Go.Proofs.Ytmebogkhdbbbbaa.Q

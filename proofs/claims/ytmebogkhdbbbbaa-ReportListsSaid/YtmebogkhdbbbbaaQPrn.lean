/- Listings: both print the same text of words. (The part of QPrint that asks nothing of reading.) -/
import Derived.Test.YtmebogkhdbbbbaaPx34
import Derived.Test.YtmebogkhdbbbbaaPx54
import Derived.Test.YtmebogkhdbbbbaaQDec
namespace Go.Proofs.Ytmebogkhdbbbbaa.Q
set_option linter.unusedSimpArgs false
set_option linter.unusedVariables false
open Go Go.RowKit Go.Proofs.Ytmebogkhdbbbbaa.P Go.Proofs.Ytmebogkhdbbbbaa.C Go.Proofs.YtmebogkhdbbbbaaW.PrintWords

theorem ls_hx (w : Int) (h : 0 ≤ w ∧ w ≤ 4294967295) : (hx w).size = 8 := by
  unfold hx
  rw [strOfNums_size, hexOf_eq w (by omega)]; rfl
theorem lineAt_size (a w op x y z i e : Int) (ha : 0 ≤ a ∧ a ≤ 4294967295) (hw : 0 ≤ w ∧ w ≤ 4294967295) : (lineAt a w op x y z i e).size ≤ 430 := by
  have h1 := ls_hx a ha
  have h2 := ls_hx w hw
  have h3 := ls_hx (leadOf a i) (by have := lead_range a i; omega)
  have h4 := itext_size op x y z i
  have hs : sp.size = 1 := rfl
  have har : arrow.size = 4 := rfl
  have hq : (⟨#[63]⟩ : ByteArray).size = 1 := rfl
  unfold lineAt
  repeat' split
  all_goals simp only [ByteArray.size_append]; omega
theorem line_size (a w : Int) (ha : 0 ≤ a ∧ a ≤ 4294967295) (hw : 0 ≤ w ∧ w ≤ 4294967295) : (lineOf a w).size ≤ 430 := lineAt_size _ _ _ _ _ _ _ _ ha hw
/-- The lines of words. -/
def lnOf (a0 : Int) : List Int → Nat → List ByteArray
  | [], _ => []
  | x :: t, j => lineOf (lp_at a0 j) x :: lnOf a0 t (j + 1)
theorem lp_at_range (a0 : Int) (j : Nat) : 0 ≤ lp_at a0 j ∧ lp_at a0 j ≤ 4294967295 := by unfold lp_at; omega
def U32 (x : Int) : Prop := 0 ≤ x ∧ x ≤ 4294967295
theorem lines_eq (k : Nat) (hk : 70 ≤ k) (a0 : Int) : ∀ (l : List Int) (j : Nat), (∀ x ∈ l, U32 x) → lp_lines k a0 l j = some (lnOf a0 l j)
  | [], _, _ => rfl
  | x :: t, j, h => by
    have hx := h x List.mem_cons_self
    have hz := line_size (lp_at a0 j) x (lp_at_range a0 j) hx
    rw [lp_lines, line_eq k hk _ _ (lp_at_range a0 j) hx, Option.bind_some, if_pos (by omega), lines_eq k hk a0 t (j + 1) (fun y hy => h y (List.mem_cons_of_mem _ hy)), Option.bind_some]
    rfl
theorem ln_size (a0 : Int) : ∀ (l : List Int) (j : Nat), (∀ x ∈ l, U32 x) → (lp_bytes (lnOf a0 l j)).length ≤ 431 * l.length
  | [], _, _ => by simp [lnOf, lp_bytes]
  | x :: t, j, h => by
    have hx := h x List.mem_cons_self
    have hz := line_size (lp_at a0 j) x (lp_at_range a0 j) hx
    have ih := ln_size a0 t (j + 1) (fun y hy => h y (List.mem_cons_of_mem _ hy))
    have e : (lineOf (lp_at a0 j) x).data.toList.length = (lineOf (lp_at a0 j) x).size := data_length _
    unfold lp_bytes at ih ⊢
    simp only [lnOf, List.flatMap_cons, List.length_append, List.length_cons, List.length_nil]
    omega
theorem text_cons (s : ByteArray) (L : List ByteArray) : lp_text (s :: L) = s ++ (⟨#[10]⟩ : ByteArray) ++ lp_text L := by
  unfold lp_text lp_bytes
  apply ByteArray.ext
  apply Array.ext'
  simp [ByteArray.data_append]
theorem rprint_eq (k0 : Nat) (a0 : Int) (l : List Int) (hl : l.length ≤ 1000) (h : ∀ x ∈ l, U32 x) (d : Nat) : ∀ (k j : Nat) (s : ByteArray), l.length - j = d → j ≤ l.length → d + 100 < k → s.size + 431 * d ≤ 1000000 →
    pascalineref06_Print.l0 k a0 l s (j : Int) = some (s ++ lp_text (lnOf a0 (l.drop j) j)) := by
  induction d with
  | zero =>
    intro k j s hd hj hk hz
    obtain ⟨k, rfl⟩ : ∃ q, k = q + 1 := ⟨k - 1, by omega⟩
    rw [pascalineref06_Print.l0, if_neg (by omega), List.drop_eq_nil_of_le (by omega)]
    have : lp_text (lnOf a0 [] j) = ⟨#[]⟩ := rfl
    rw [this]
    congr 1
    apply ByteArray.ext
    simp
  | succ d ih =>
    intro k j s hd hj hk hz
    obtain ⟨k, rfl⟩ : ∃ q, k = q + 1 := ⟨k - 1, by omega⟩
    have hlt : j < l.length := by omega
    have hx := h l[j] (List.getElem_mem hlt)
    have ea : ((a0 + ((4 * (((j : Nat) : Int) % 4294967296)) % 4294967296)) % 4294967296) = lp_at a0 j := by unfold lp_at; omega
    have er : rd l (j : Int) = l[j] := by unfold rd; simp [hlt]
    have hsz := line_size (lp_at a0 j) l[j] (lp_at_range a0 j) hx
    have h1 : (⟨#[10]⟩ : ByteArray).size = 1 := rfl
    rw [pascalineref06_Print.l0, if_pos (by omega), if_pos (by omega), ea, er, rline_eq k (by omega) _ _ (lp_at_range a0 j) hx, Option.bind_some, if_pos (by omega), if_pos (by rw [ByteArray.size_append]; omega), wrap64_in (n := (j : Int) + 1) (by omega), show (j : Int) + 1 = ((j + 1 : Nat) : Int) by omega]
    rw [ih k (j + 1) _ (by omega) (by omega) (by omega) (by simp only [ByteArray.size_append]; omega), List.drop_eq_getElem_cons hlt]
    rw [lnOf, text_cons]
    congr 1
    simp only [ByteArray.append_assoc]
theorem pn_text_size (L : List ByteArray) : (lp_text L).size = (lp_bytes L).length := by unfold lp_text; simp [ByteArray.size]
/-- Both print the same. -/
theorem print_same (k : Nat) (a0 : Int) (l : List Int) (hk : 2000 < k) (hl : l.length ≤ 1000) (h : ∀ x ∈ l, U32 x) : listing_Print.f k a0 l = some (lp_text (lnOf a0 l 0)) ∧ pascalineref06_Print.f k a0 l = some (lp_text (lnOf a0 l 0)) := by
  constructor
  · unfold listing_Print.f
    rw [if_pos hl, lines_eq k (by omega) a0 l 0 h]
    rfl
  · have := rprint_eq 0 a0 l hl h l.length k 0 ⟨#[]⟩ (by omega) (by omega) (by omega) (by show 0 + 431 * l.length ≤ 1000000; omega)
    rw [List.drop_zero] at this
    unfold pascalineref06_Print.f
    exact this.trans (by first | rfl | (congr 1; done) | (congr 1; apply ByteArray.ext; simp))
end Go.Proofs.Ytmebogkhdbbbbaa.Q

-- Written by a program of this session (wip/tools/hp.py) out of the translation.
import Derived.Test.YtkgjpelddncfdaaPx0
import Derived.Test.YtkgjpelddncfdaaPx2
import Derived.Test.YtkgjpelddncfdaaPx3
import Derived.Test.YtkgjpelddncfdaaPx5
import Derived.Test.YtkgjpelddncfdaaPx9
import Derived.Test.YtkgjpelddncfdaaPx10
import Derived.Test.YtkgjpelddncfdaaPx13
import Derived.Test.YtkgjpelddncfdaaPx14
import Derived.Test.YtkgjpelddncfdaaPx16
import Derived.Test.YtkgjpelddncfdaaPx17
import Derived.Test.YtkgjpelddncfdaaPx18
import Derived.Test.YtkgjpelddncfdaaPx19
import Derived.Test.YtkgjpelddncfdaaPx20
import Derived.Test.YtkgjpelddncfdaaPx23
namespace Go.Proofs.Ytkgjpelddncfdaa.P
open Go.RowKit Go.Proofs.YtkgjpelddncfdaaW.PrintWords Go.Proofs.YtkgjpelddncfdaaW.PrintLast Go.Proofs.YtkgjpelddncfdaaW.PrintMore
attribute [local go_sem] max2_int min2_int max_two min_two max_three min_three max_four min_four   -- for this text's walks alone
set_option linter.unusedVariables false
set_option linter.unusedSimpArgs false

/-! ### pascalineref11_Member: function 18 -/
/-! The document's functions, as plain lists. -/
abbrev RO := S46
abbrev SO := S25
def rf_is (l : Int) (a : ByteArray) (x : RO) : Bool := decide (x.f3 = l) && (x.f0.toList == a.toList)
theorem os_ix_cons {α : Type} (p : α → Bool) (x : α) (l : List α) (i : Int) : os_ix p (x :: l) i = if p x = true then i else os_ix p l (i + 1) := rfl
theorem rf_rd (L : List RO) (i : Nat) (h : i < L.length) : rd_T46 L (i : Int) = L[i] := by
  unfold rd_T46
  rw [Int.toNat_natCast, List.getD_eq_getElem?_getD, List.getElem?_eq_getElem h]
  rfl
theorem rf_up (i : Nat) (h : i ≤ 1000000) : wrap64 ((i : Int) + 1) = ((i + 1 : Nat) : Int) := by unfold wrap64; omega
theorem rf_at_l (L : List RO) (hL : L.length ≤ 1000000) (l lv : Int) (Ms : List (List RO)) (a : ByteArray) (d : Nat) : ∀ (k i : Nat), i ≤ L.length → L.length - i = d → d < k →
    pascalineref11_at.l0 k l a (i : Int) L lv Ms = some (os_ix (rf_is l a) (L.drop i) (i : Int)) := by
  induction d with
  | zero =>
    intro k i hi hd hk
    obtain ⟨k, rfl⟩ : ∃ m, k = m + 1 := ⟨k - 1, by omega⟩
    simp only [pascalineref11_at.l0]
    rw [if_neg (by omega), List.drop_eq_nil_of_le (by omega)]
    rfl
  | succ d ih =>
    intro k i hi hd hk
    obtain ⟨k, rfl⟩ : ∃ m, k = m + 1 := ⟨k - 1, by omega⟩
    have hlt : i < L.length := by omega
    simp only [pascalineref11_at.l0]
    rw [if_pos (by omega), if_pos (by omega), rf_rd L i hlt, rf_up i (by omega), List.drop_eq_getElem_cons hlt, ih k (i + 1) (by omega) (by omega) (by omega)]
    rw [os_ix_cons]
    by_cases h1 : L[i].f3 = l
    · rw [if_pos h1]
      by_cases h2 : L[i].f0.toList = a.toList
      · rw [if_pos h2, if_pos (by simp [rf_is, h1, h2])]
      · rw [if_neg h2, if_neg (by simp [rf_is, h2])]; rfl
    · rw [if_neg h1, if_neg (by simp [rf_is, h1])]; rfl
theorem rf_at (L : List RO) (hL : L.length ≤ 1000000) (l lv : Int) (Ms : List (List RO)) (a : ByteArray) (k : Nat) (hk : L.length < k) : pascalineref11_at.f k L lv Ms l a = some (os_ix (rf_is l a) L 0) := by
  have := rf_at_l L hL l lv Ms a L.length k 0 (by omega) (by omega) hk
  unfold pascalineref11_at.f
  exact this
theorem rf_close_l (L : List RO) (hL : L.length ≤ 1000000) (lv : Int) (Ms : List (List RO)) (d : Nat) : ∀ (k i : Nat), i ≤ L.length → L.length - i = d → d < k →
    pascalineref11_Close.l0 k ((L.take i).filter (fun x => decide (x.f3 < lv))) (i : Int) L lv Ms = some (L.filter (fun x => decide (x.f3 < lv)), wrap64 (lv - 1), Ms, 0) := by
  induction d with
  | zero =>
    intro k i hi hd hk
    obtain ⟨k, rfl⟩ : ∃ m, k = m + 1 := ⟨k - 1, by omega⟩
    simp only [pascalineref11_Close.l0]
    rw [if_neg (by omega), List.take_of_length_le (by omega)]
  | succ d ih =>
    intro k i hi hd hk
    obtain ⟨k, rfl⟩ : ∃ m, k = m + 1 := ⟨k - 1, by omega⟩
    have hlt : i < L.length := by omega
    have hf : ((L.take i).filter (fun x => decide (x.f3 < lv))).length ≤ 1000000 := Nat.le_trans (List.length_filter_le _ _) (by rw [List.length_take]; omega)
    simp only [pascalineref11_Close.l0]
    rw [if_pos (by omega), if_pos (by omega), rf_rd L i hlt, rf_up i (by omega)]
    have ih2 := ih k (i + 1) (by omega) (by omega) (by omega)
    rw [List.take_succ_eq_append_getElem hlt, List.filter_append] at ih2
    by_cases h1 : L[i].f3 < lv
    · rw [if_pos h1]
      rw [if_pos (show _ from Nat.lt_of_le_of_lt hf (by decide))]
      rw [show [L[i]].filter (fun x => decide (x.f3 < lv)) = [L[i]] by simp [h1]] at ih2
      exact ih2
    · rw [if_neg h1]
      rw [show [L[i]].filter (fun x => decide (x.f3 < lv)) = [] by simp [h1], List.append_nil] at ih2
      exact ih2
def rf_close (L : List RO) (lv : Int) (Ms : List (List RO)) : List RO × Int × List (List RO) × Int := if lv = 0 then (L, lv, Ms, 111) else (L.filter (fun x => decide (x.f3 < lv)), lv - 1, Ms, 0)
theorem rf_close_f (L : List RO) (hL : L.length ≤ 1000000) (lv : Int) (hlv : 0 ≤ lv ∧ lv ≤ 64) (Ms : List (List RO)) (k : Nat) (hk : L.length < k) : pascalineref11_Close.f k L lv Ms = some (rf_close L lv Ms) := by
  have := rf_close_l L hL lv Ms L.length k 0 (by omega) (by omega) hk
  unfold pascalineref11_Close.f rf_close
  by_cases h : lv = 0
  · rw [if_pos h, if_pos h]
  · rw [if_neg h, if_neg h]
    rw [show wrap64 (lv - 1) = lv - 1 by unfold wrap64; omega] at this
    exact this
def rf_names (L : List RO) (lv : Int) : List ByteArray := (L.filter (fun x => decide (x.f3 = lv))).map (·.f0)
theorem rf_names_l (L : List RO) (hL : L.length ≤ 1000000) (lv : Int) (Ms : List (List RO)) (d : Nat) : ∀ (k i : Nat), i ≤ L.length → L.length - i = d → d < k →
    pascalineref11_Names.l0 k (rf_names (L.take i) lv) (i : Int) L lv Ms = some (rf_names L lv) := by
  induction d with
  | zero =>
    intro k i hi hd hk
    obtain ⟨k, rfl⟩ : ∃ m, k = m + 1 := ⟨k - 1, by omega⟩
    simp only [pascalineref11_Names.l0]
    rw [if_neg (by omega), List.take_of_length_le (by omega)]
  | succ d ih =>
    intro k i hi hd hk
    obtain ⟨k, rfl⟩ : ∃ m, k = m + 1 := ⟨k - 1, by omega⟩
    have hlt : i < L.length := by omega
    have hf : (rf_names (L.take i) lv).length ≤ 1000000 := by unfold rf_names; rw [List.length_map]; exact Nat.le_trans (List.length_filter_le _ _) (by rw [List.length_take]; omega)
    simp only [pascalineref11_Names.l0]
    rw [if_pos (by omega), if_pos (by omega), rf_rd L i hlt, rf_up i (by omega)]
    have ih2 := ih k (i + 1) (by omega) (by omega) (by omega)
    unfold rf_names at ih2 hf ⊢
    rw [List.take_succ_eq_append_getElem hlt, List.filter_append, List.map_append] at ih2
    by_cases h1 : L[i].f3 = lv
    · rw [if_pos h1, if_pos (by omega)]
      rw [show [L[i]].filter (fun x => decide (x.f3 = lv)) = [L[i]] by simp [h1]] at ih2
      exact ih2
    · rw [if_neg h1]
      rw [show [L[i]].filter (fun x => decide (x.f3 = lv)) = [] by simp [h1], List.map_nil, List.append_nil] at ih2
      exact ih2
theorem rf_names_f (L : List RO) (hL : L.length ≤ 1000000) (lv : Int) (Ms : List (List RO)) (k : Nat) (hk : L.length < k) : pascalineref11_Names.f k L lv Ms = some (rf_names L lv) := by
  have := rf_names_l L hL lv Ms L.length k 0 (by omega) (by omega) hk
  unfold pascalineref11_Names.f
  exact this
def rf_exp (x : RO) : S71 := ⟨x.f0, x.f1, x.f2, x.f4, x.f7⟩
def rf_exports (L : List RO) : List S71 := ((L.filter (fun x => decide (x.f3 = 0))).filter (·.f6)).map rf_exp
theorem rf_exports_l (L : List RO) (hL : L.length ≤ 1000000) (lv : Int) (Ms : List (List RO)) (d : Nat) : ∀ (k i : Nat), i ≤ L.length → L.length - i = d → d < k →
    pascalineref11_Exports.l0 k (rf_exports (L.take i)) (i : Int) L lv Ms = some (rf_exports L) := by
  induction d with
  | zero =>
    intro k i hi hd hk
    obtain ⟨k, rfl⟩ : ∃ m, k = m + 1 := ⟨k - 1, by omega⟩
    simp only [pascalineref11_Exports.l0]
    rw [if_neg (by omega), List.take_of_length_le (by omega)]
  | succ d ih =>
    intro k i hi hd hk
    obtain ⟨k, rfl⟩ : ∃ m, k = m + 1 := ⟨k - 1, by omega⟩
    have hlt : i < L.length := by omega
    have hf : (rf_exports (L.take i)).length ≤ 1000000 := by unfold rf_exports; rw [List.length_map]; exact Nat.le_trans (List.length_filter_le _ _) (Nat.le_trans (List.length_filter_le _ _) (by rw [List.length_take]; omega))
    simp only [pascalineref11_Exports.l0]
    rw [if_pos (by omega), if_pos (by omega), rf_rd L i hlt, rf_up i (by omega)]
    have ih2 := ih k (i + 1) (by omega) (by omega) (by omega)
    unfold rf_exports at ih2 hf ⊢
    rw [List.take_succ_eq_append_getElem hlt, List.filter_append, List.filter_append, List.map_append] at ih2
    by_cases h1 : L[i].f3 = 0
    · rw [if_pos h1]
      rw [show [L[i]].filter (fun x => decide (x.f3 = 0)) = [L[i]] by simp [h1]] at ih2
      by_cases h2 : L[i].f6 = true
      · rw [if_pos h2, if_pos (by omega)]
        rw [show [L[i]].filter (fun x => x.f6) = [L[i]] by simp [h2]] at ih2
        exact ih2
      · rw [if_neg h2]
        rw [show [L[i]].filter (fun x => x.f6) = [] by simp [h2], List.map_nil, List.append_nil] at ih2
        exact ih2
    · rw [if_neg h1]
      rw [show [L[i]].filter (fun x => decide (x.f3 = 0)) = [] by simp [h1], List.filter_nil, List.map_nil, List.append_nil] at ih2
      exact ih2
theorem rf_exports_f (L : List RO) (hL : L.length ≤ 1000000) (lv : Int) (Ms : List (List RO)) (k : Nat) (hk : L.length < k) : pascalineref11_Exports.f k L lv Ms = some (rf_exports L) := by
  have := rf_exports_l L hL lv Ms L.length k 0 (by omega) (by omega) hk
  unfold pascalineref11_Exports.f
  exact this
def rf_count (L : List RO) (lv : Int) : Nat := (L.filter (fun x => decide (x.f3 = lv))).length
def rf_declare (L : List RO) (lv : Int) (Ms : List (List RO)) (x : RO) : List RO × Int × List (List RO) × Int :=
  if x.f0.size = 0 ∨ 32 < x.f0.size then (L, lv, Ms, 140) else if 0 ≤ os_ix (rf_is lv x.f0) L 0 then (L, lv, Ms, 51) else if 4096 ≤ rf_count L lv then (L, lv, Ms, 242) else (L ++ [{ x with f3 := lv }], lv, Ms, 0)
theorem rf_declare_l (L : List RO) (hL : L.length ≤ 1000000) (lv : Int) (Ms : List (List RO)) (x : RO) (d : Nat) : ∀ (k i : Nat), i ≤ L.length → L.length - i = d → d < k →
    pascalineref11_Declare.l0 k (rf_count (L.take i) lv : Int) (i : Int) L lv Ms x.f0 x.f1 x.f2 x.f3 x.f4 x.f5 x.f6 x.f7 = some (if 4096 ≤ rf_count L lv then (L, lv, Ms, 242) else (L ++ [{ x with f3 := lv }], lv, Ms, 0)) := by
  induction d with
  | zero =>
    intro k i hi hd hk
    obtain ⟨k, rfl⟩ : ∃ m, k = m + 1 := ⟨k - 1, by omega⟩
    simp only [pascalineref11_Declare.l0]
    rw [if_neg (by omega), List.take_of_length_le (by omega)]
    by_cases h : 4096 ≤ rf_count L lv
    · rw [if_pos (by omega), if_pos h]
    · rw [if_neg (by omega), if_neg h]
      simp only [Option.bind_some, List.nil_append, List.length_nil, List.length_singleton]
      rw [if_pos (by omega), if_pos (by omega)]
  | succ d ih =>
    intro k i hi hd hk
    obtain ⟨k, rfl⟩ : ∃ m, k = m + 1 := ⟨k - 1, by omega⟩
    have hlt : i < L.length := by omega
    have hf : rf_count (L.take i) lv ≤ 1000000 := Nat.le_trans (List.length_filter_le _ _) (by rw [List.length_take]; omega)
    simp only [pascalineref11_Declare.l0]
    rw [if_pos (by omega), if_pos (by omega), rf_rd L i hlt, rf_up i (by omega), rf_up _ hf]
    have ih2 := ih k (i + 1) (by omega) (by omega) (by omega)
    rw [show rf_count (L.take (i + 1)) lv = rf_count (L.take i) lv + (if L[i].f3 = lv then 1 else 0) by
      unfold rf_count; rw [List.take_succ_eq_append_getElem hlt, List.filter_append, List.length_append]; by_cases h : L[i].f3 = lv <;> simp [h]] at ih2
    by_cases h1 : L[i].f3 = lv
    · rw [if_pos h1]; rw [if_pos h1] at ih2; exact ih2
    · rw [if_neg h1]; rw [if_neg h1, Nat.add_zero] at ih2; exact ih2
theorem rf_declare_f (L : List RO) (hL : L.length ≤ 1000000) (lv : Int) (Ms : List (List RO)) (x : RO) (k : Nat) (hk : L.length + 1 < k) :
    pascalineref11_Declare.f k L lv Ms x.f0 x.f1 x.f2 x.f3 x.f4 x.f5 x.f6 x.f7 = some (rf_declare L lv Ms x) := by
  obtain ⟨k, rfl⟩ : ∃ m, k = m + 1 := ⟨k - 1, by omega⟩
  have h0 := rf_declare_l L hL lv Ms x L.length k 0 (by omega) (by omega) (by omega)
  have hat := rf_at L hL lv lv Ms x.f0 k (by omega)
  unfold pascalineref11_Declare.f rf_declare
  simp only [pascalineref11_Declare.j0]
  by_cases h1 : x.f0.size = 0
  · rw [if_pos (by omega), if_pos trivial, if_pos (Or.inl h1)]
  · rw [if_neg (by omega)]
    by_cases h2 : 32 < x.f0.size
    · rw [if_pos (decide_eq_true (by omega)), if_pos (.inr h2)]
    · rw [if_neg (by simp; omega), if_neg (by omega), hat]
      simp only [Option.bind_some]
      by_cases h3 : 0 ≤ os_ix (rf_is lv x.f0) L 0
      · rw [if_pos (by omega), if_pos h3]
      · rw [if_neg (by omega), if_neg h3]
        exact h0
def rf_change (L : List RO) (lv : Int) (Ms : List (List RO)) (l : Int) (x : RO) : List RO × Int × List (List RO) × Int :=
  if os_ix (rf_is l x.f0) L 0 < 0 then (L, lv, Ms, 110) else (L.set (os_ix (rf_is l x.f0) L 0).toNat { x with f3 := l }, lv, Ms, 0)
theorem rf_change_f (L : List RO) (hL : L.length ≤ 1000000) (lv : Int) (Ms : List (List RO)) (l : Int) (x : RO) (k : Nat) (hk : L.length < k) :
    pascalineref11_Change.f k L lv Ms l x.f0 x.f1 x.f2 x.f3 x.f4 x.f5 x.f6 x.f7 = some (rf_change L lv Ms l x) := by
  unfold pascalineref11_Change.f rf_change
  rw [rf_at L hL l lv Ms x.f0 k hk]
  simp only [Option.bind_some, List.nil_append, List.length_nil]
  by_cases h : os_ix (rf_is l x.f0) L 0 < 0
  · rw [if_pos h, if_pos h]
  · have := os_ix_lt (rf_is l x.f0) L 0 (by omega) (by omega)
    rw [if_neg h, if_neg h, if_pos (by omega), if_pos (by omega), if_pos (by omega)]
def rf_imp (n : Int) (x : S71) : RO := ⟨x.f0, x.f1, x.f2, 0, x.f3, n, false, x.f4⟩
def rf_mod (a : ByteArray) (n : Int) : RO := ⟨a, 8, 0, 0, n, 0, false, []⟩
theorem rf_rdE (L : List S71) (i : Nat) (h : i < L.length) : rd_T71 L (i : Int) = L[i] := by
  unfold rd_T71
  rw [Int.toNat_natCast, List.getD_eq_getElem?_getD, List.getElem?_eq_getElem h]
  rfl
theorem rf_import_l (l2 : List S71) (hL : l2.length ≤ 1048576) (n : Int) (L0 : List RO) (lv0 : Int) (Ms : List (List RO)) (L1 : List RO) (lv1 : Int) (Ms1 : List (List RO)) (hM : Ms.length ≤ 64) (d : Nat) : ∀ (k i : Nat), i ≤ l2.length → l2.length - i = d → d < k →
    pascalineref11_Import.l0 k l2 n ((l2.take i).map (rf_imp n)) (i : Int) L0 lv0 Ms L1 lv1 Ms1 = some (L1, lv1, Ms ++ [l2.map (rf_imp n)], n, 0) := by
  induction d with
  | zero =>
    intro k i hi hd hk
    obtain ⟨k, rfl⟩ : ∃ m, k = m + 1 := ⟨k - 1, by omega⟩
    simp only [pascalineref11_Import.l0]
    rw [if_neg (by omega), List.take_of_length_le (by omega)]
    simp only [Option.bind_some, List.nil_append, List.length_nil]
    rw [if_pos (by omega), if_pos (by omega)]
  | succ d ih =>
    intro k i hi hd hk
    obtain ⟨k, rfl⟩ : ∃ m, k = m + 1 := ⟨k - 1, by omega⟩
    have hlt : i < l2.length := by omega
    simp only [pascalineref11_Import.l0]
    rw [if_pos (by omega), if_pos (by omega), if_pos (by rw [List.length_map, List.length_take]; omega), rf_rdE l2 i hlt, show wrap64 ((i : Int) + 1) = ((i + 1 : Nat) : Int) by unfold wrap64; omega]
    have ih2 := ih k (i + 1) (by omega) (by omega) (by omega)
    rw [List.take_succ_eq_append_getElem hlt, List.map_append] at ih2
    exact ih2
def rf_import (L : List RO) (lv : Int) (Ms : List (List RO)) (a : ByteArray) (l2 : List S71) : List RO × Int × List (List RO) × Int × Int :=
  if 64 ≤ Ms.length then (L, lv, Ms, 0, 243) else
  if (rf_declare L lv Ms (rf_mod a ((Ms.length : Int) + 1))).2.2.2 = 0 then ((rf_declare L lv Ms (rf_mod a ((Ms.length : Int) + 1))).1, (rf_declare L lv Ms (rf_mod a ((Ms.length : Int) + 1))).2.1, Ms ++ [l2.map (rf_imp ((Ms.length : Int) + 1))], (Ms.length : Int) + 1, 0) else (L, lv, Ms, 0, (rf_declare L lv Ms (rf_mod a ((Ms.length : Int) + 1))).2.2.2)
theorem rf_import_f (L : List RO) (hL : L.length ≤ 1000000) (lv : Int) (Ms : List (List RO)) (hM : Ms.length ≤ 64) (a : ByteArray) (l2 : List S71) (hl2 : l2.length ≤ 1048576) (k : Nat) (hk : L.length + 1 < k) (hk2 : l2.length < k) :
    pascalineref11_Import.f k L lv Ms a l2 = some (rf_import L lv Ms a l2) := by
  unfold pascalineref11_Import.f rf_import
  by_cases h : 64 ≤ Ms.length
  · rw [if_pos (by omega), if_pos h]
  · rw [if_neg (by omega), if_neg h]
    have hw : wrap64 ((Ms.length : Int) + 1) = (Ms.length : Int) + 1 := by unfold wrap64; omega
    have hw2 : wrap32 ((Ms.length : Int) + 1) = (Ms.length : Int) + 1 := by unfold wrap32; omega
    rw [hw, hw2]
    have hd := rf_declare_f L hL lv Ms (rf_mod a ((Ms.length : Int) + 1)) k hk
    rw [show pascalineref11_Declare.f k L lv Ms a 8 0 0 ((Ms.length : Int) + 1) 0 false [] = some (rf_declare L lv Ms (rf_mod a ((Ms.length : Int) + 1))) from hd]
    simp only [Option.bind_some]
    by_cases h2 : (rf_declare L lv Ms (rf_mod a ((Ms.length : Int) + 1))).2.2.2 = 0
    · rw [if_pos h2, if_pos h2]
      exact rf_import_l l2 hl2 ((Ms.length : Int) + 1) L lv Ms _ _ _ hM l2.length k 0 (by omega) (by omega) (by omega)
    · rw [if_neg h2, if_neg h2]
/-! What the scopes are, held against the document's list. -/
def sc_r (x : SO) : RO := ⟨x.f0, x.f1, x.f2, x.f3, x.f4, x.f5, x.f6, x.f7⟩
/-- The first one that is so: its place. -/
def nf {α : Type} (p : α → Bool) : List α → Option Nat
  | [] => none
  | x :: l => if p x = true then some 0 else (nf p l).map (· + 1)
theorem ix_nf {α : Type} (p : α → Bool) : ∀ (l : List α) (i : Int), os_ix p l i = match nf p l with | none => -1 | some r => i + (r : Int)
  | [], i => rfl
  | x :: l, i => by
    rw [os_ix_cons, nf]
    by_cases h : p x = true
    · rw [if_pos h, if_pos h]; simp
    · rw [if_neg h, if_neg h, ix_nf p l (i + 1)]
      cases nf p l with
      | none => rfl
      | some r =>
        show i + 1 + (r : Int) = i + ((r + 1 : Nat) : Int)
        omega
theorem ix_none {α : Type} {p : α → Bool} {l : List α} : os_ix p l 0 < 0 ↔ nf p l = none := by
  rw [ix_nf]
  cases nf p l with
  | none => simp
  | some r => simp
theorem ix_some {α : Type} {p : α → Bool} {l : List α} {r : Nat} (h : nf p l = some r) : os_ix p l 0 = (r : Int) := by
  rw [ix_nf, h]; simp
theorem ix_m1 {α : Type} {p : α → Bool} {l : List α} (h : nf p l = none) : os_ix p l 0 = -1 := by rw [ix_nf, h]
theorem nf_filter {α : Type} (p q : α → Bool) : ∀ (l : List α), nf (fun x => p x && q x) l = none ↔ nf q (l.filter p) = none
  | [] => by simp [nf]
  | x :: l => by
    have ih := nf_filter p q l
    rw [nf]
    by_cases hp : p x = true
    · rw [List.filter_cons_of_pos hp, nf]
      by_cases hq : q x = true
      · simp [hp, hq]
      · simp [hp, hq]; exact ih
    · rw [List.filter_cons_of_neg (by simpa using hp)]
      simp [hp]; exact ih
theorem nf_lt {α : Type} {p : α → Bool} : ∀ {l : List α} {r : Nat}, nf p l = some r → ∃ h : r < l.length, p l[r] = true
  | [], r, h => by simp [nf] at h
  | x :: l, r, h => by
    rw [nf] at h
    by_cases hp : p x = true
    · rw [if_pos hp] at h
      injection h with h
      subst h
      exact ⟨by simp, hp⟩
    · rw [if_neg hp] at h
      obtain ⟨r', hr, rfl⟩ := Option.map_eq_some_iff.1 h
      obtain ⟨h1, h2⟩ := nf_lt hr
      exact ⟨by simpa using h1, by simpa using h2⟩
/-- Found in the list is found in the part that is so: the same one; put another one in its place: it's put there, too. -/
theorem nf_both {α : Type} (p q : α → Bool) : ∀ (l : List α) (r : Nat), nf (fun x => p x && q x) l = some r → ∃ i, nf q (l.filter p) = some i ∧ l[r]? = (l.filter p)[i]? ∧ ∀ y, p y = true → (l.set r y).filter p = (l.filter p).set i y
  | [], r, h => by simp [nf] at h
  | x :: l, r, h => by
    rw [nf] at h
    by_cases hp : p x = true
    · rw [List.filter_cons_of_pos hp, nf]
      by_cases hq : q x = true
      · simp only [hp, hq, Bool.and_self, if_true] at h ⊢
        injection h with h
        subst h
        exact ⟨0, rfl, by simp, fun y hy => by simp [List.filter_cons, hy]⟩
      · rw [if_neg (by simp [hq])] at h
        obtain ⟨r', hr, rfl⟩ := Option.map_eq_some_iff.1 h
        obtain ⟨i, h1, h2, h3⟩ := nf_both p q l r' hr
        rw [if_neg hq, h1]
        exact ⟨i + 1, rfl, by simpa using h2, fun y hy => by rw [List.set_cons_succ, List.filter_cons_of_pos hp, h3 y hy, List.set_cons_succ]⟩
    · rw [List.filter_cons_of_neg (by simpa using hp)]
      rw [if_neg (by simp [hp])] at h
      obtain ⟨r', hr, rfl⟩ := Option.map_eq_some_iff.1 h
      obtain ⟨i, h1, h2, h3⟩ := nf_both p q l r' hr
      exact ⟨i, h1, by simpa using h2, fun y hy => by rw [List.set_cons_succ, List.filter_cons_of_neg (by simpa using hp), h3 y hy]⟩
theorem filter_set_other {α : Type} (p : α → Bool) (y : α) (hy : p y = false) : ∀ (l : List α) (r : Nat), (∀ h : r < l.length, p l[r] = false) → (l.set r y).filter p = l.filter p
  | [], r, _ => by simp
  | x :: l, 0, h => by
    have hx : p x = false := h (by simp)
    simp [List.filter_cons, hy, hx]
  | x :: l, r + 1, h => by
    rw [List.set_cons_succ]
    have ih := filter_set_other p y hy l r (fun hr => h (by simpa using hr))
    by_cases hp : p x = true
    · rw [List.filter_cons_of_pos hp, List.filter_cons_of_pos hp, ih]
    · rw [List.filter_cons_of_neg (by simpa using hp), List.filter_cons_of_neg (by simpa using hp), ih]
theorem nf_map {α β : Type} (f : α → β) (p : β → Bool) : ∀ (l : List α), nf p (l.map f) = nf (fun x => p (f x)) l
  | [] => rfl
  | x :: l => by rw [List.map_cons, nf, nf, nf_map f p l]
def lvB (k : Int) (x : RO) : Bool := decide (x.f3 = k)
structure Sim (D M : List (List SO)) (L : List RO) (lv : Int) (Ms : List (List RO)) : Prop where
  lv : lv = (D.length : Int) - 1
  pos : 1 ≤ D.length
  rows : ∀ (k : Nat) (d : List SO), D[k]? = some d → L.filter (lvB (k : Int)) = d.map sc_r
  rng : ∀ x ∈ L, 0 ≤ x.f3 ∧ x.f3 < (D.length : Int)
  mods : Ms = M.map (fun l => l.map sc_r)
theorem Sim.start : Sim [[]] [] [] 0 [] := ⟨rfl, by simp, fun k d h => by cases k with
  | zero => simp at h; subst h; rfl
  | succ k => simp at h, fun x h => by simp at h, rfl⟩
theorem rf_is_eq (k : Int) (a : ByteArray) : rf_is k a = fun x => lvB k x && (x.f0.toList == a.toList) := rfl
/-- At a level the one is found where the other is. -/
theorem Sim.ix {D M : List (List SO)} {L : List RO} {lv : Int} {Ms : List (List RO)} (h : Sim D M L lv Ms) {k : Nat} {d : List SO} (hd : D[k]? = some d) (a : ByteArray) : (nf (rf_is (k : Int) a) L = none ↔ nf (sc_is a) d = none) := by
  rw [rf_is_eq, nf_filter, h.rows k d hd, nf_map]
  exact Iff.rfl
theorem Sim.found {D M : List (List SO)} {L : List RO} {lv : Int} {Ms : List (List RO)} (h : Sim D M L lv Ms) {k : Nat} {d : List SO} (hd : D[k]? = some d) (a : ByteArray) {r : Nat} (hr : nf (rf_is (k : Int) a) L = some r) :
    ∃ i, nf (sc_is a) d = some i ∧ L[r]? = (d.map sc_r)[i]? ∧ ∀ y : RO, y.f3 = (k : Int) → (L.set r y).filter (lvB (k : Int)) = (d.map sc_r).set i y := by
  rw [rf_is_eq] at hr
  obtain ⟨i, h1, h2, h3⟩ := nf_both _ _ L r hr
  rw [h.rows k d hd] at h1 h2 h3
  rw [nf_map] at h1
  exact ⟨i, h1, h2, fun y hy => h3 y (decide_eq_true hy)⟩
theorem Sim.out {D M : List (List SO)} {L : List RO} {lv : Int} {Ms : List (List RO)} (h : Sim D M L lv Ms) (k : Int) (hk : k < 0 ∨ (D.length : Int) ≤ k) (a : ByteArray) : nf (rf_is k a) L = none := by
  cases e : nf (rf_is k a) L with
  | none => rfl
  | some r =>
    obtain ⟨h1, h2⟩ := nf_lt e
    have := h.rng L[r] (List.getElem_mem _)
    unfold rf_is at h2
    simp at h2
    omega
theorem sim_open {D M : List (List SO)} {L : List RO} {lv : Int} {Ms : List (List RO)} (h : Sim D M L lv Ms) : Sim (D ++ [[]]) M L (lv + 1) Ms := by
  refine ⟨by have := h.lv; simp; omega, by simp, fun k d hd => ?_, fun x hx => by have := h.rng x hx; simp; omega, h.mods⟩
  rcases get_snoc hd with ⟨_, hd'⟩ | ⟨rfl, rfl⟩
  · exact h.rows k d hd'
  · rw [List.map_nil, List.filter_eq_nil_iff]
    intro x hx
    have := h.rng x hx
    unfold lvB
    simp; omega
theorem sim_close {D M : List (List SO)} {L : List RO} {lv : Int} {Ms : List (List RO)} (h : Sim D M L lv Ms) (h1 : 1 < D.length) : Sim D.dropLast M (L.filter (fun x => decide (x.f3 < lv))) (lv - 1) Ms := by
  have hlv := h.lv
  refine ⟨by simp; omega, by simp; omega, fun k d hd => ?_, fun x hx => ?_, h.mods⟩
  · have hk : k < D.length - 1 := by have := (List.getElem?_eq_some_iff.1 hd).1; simpa using this
    rw [← h.rows k d (dropLast_get hd), List.filter_filter]
    apply List.filter_congr
    intro x _
    unfold lvB
    by_cases hx : x.f3 = (k : Int)
    · simp [hx]; omega
    · simp [hx]
  · obtain ⟨h2, h3⟩ := List.mem_filter.1 hx
    have := h.rng x h2
    have h4 := of_decide_eq_true h3
    simp; omega
theorem Sim.last {D M : List (List SO)} {L : List RO} {lv : Int} {Ms : List (List RO)} (h : Sim D M L lv Ms) : D[D.length - 1]? = some (D.getD (D.length - 1) []) ∧ ((D.length - 1 : Nat) : Int) = lv := by
  have := h.pos
  refine ⟨?_, by have := h.lv; omega⟩
  rw [List.getD_eq_getElem?_getD, List.getElem?_eq_getElem (by omega)]
  rfl
theorem sim_put {D M : List (List SO)} {L : List RO} {lv : Int} {Ms : List (List RO)} (h : Sim D M L lv Ms) (x : SO) (hx : x.f3 = (D.length : Int) - 1) : Sim (sc_put D x) M (L ++ [sc_r x]) lv Ms := by
  obtain ⟨hl, hlv⟩ := h.last
  have hp := h.pos
  refine ⟨by unfold sc_put; rw [List.length_set]; exact h.lv, by unfold sc_put; rw [List.length_set]; exact hp, fun k d hd => ?_, fun y hy => ?_, h.mods⟩
  · unfold sc_put at hd
    rw [List.filter_append]
    rcases set_get hd with ⟨rfl, rfl⟩ | ⟨hk, hd'⟩
    · rw [h.rows _ _ hl, List.map_append]
      rw [show [sc_r x].filter (lvB ((D.length - 1 : Nat) : Int)) = [sc_r x] by simp [lvB, sc_r, hx]; omega]
      rfl
    · rw [h.rows k d hd']
      rw [show [sc_r x].filter (lvB (k : Int)) = [] by simp [lvB, sc_r, hx]; omega, List.append_nil]
  · unfold sc_put
    rw [List.length_set]
    rcases List.mem_append.1 hy with hy | hy
    · exact h.rng y hy
    · rw [List.mem_singleton.1 hy]
      show 0 ≤ x.f3 ∧ x.f3 < _
      omega
theorem sim_chg {D M : List (List SO)} {L : List RO} {lv : Int} {Ms : List (List RO)} (h : Sim D M L lv Ms) (n : Nat) (hn : n < D.length) (x : SO) (hx : x.f3 = (n : Int)) (a : ByteArray) {r : Nat} (hr : nf (rf_is (n : Int) a) L = some r) :
    ∃ i, nf (sc_is a) (D.getD n []) = some i ∧ Sim (sc_chg D n i x) M (L.set r (sc_r x)) lv Ms := by
  have hd : D[n]? = some (D.getD n []) := by rw [List.getD_eq_getElem?_getD, List.getElem?_eq_getElem hn]; rfl
  obtain ⟨i, h1, h2, h3⟩ := h.found hd a hr
  obtain ⟨hr1, hr2⟩ := nf_lt hr
  refine ⟨i, h1, by unfold sc_chg; rw [List.length_set]; exact h.lv, by unfold sc_chg; rw [List.length_set]; exact h.pos, fun k d hk => ?_, fun y hy => ?_, h.mods⟩
  · unfold sc_chg at hk
    rcases set_get hk with ⟨rfl, rfl⟩ | ⟨hkn, hk'⟩
    · rw [h3 (sc_r x) hx, List.map_set]
    · rw [← h.rows k d hk']
      refine filter_set_other _ _ ?_ _ _ (fun hl => ?_)
      · unfold lvB sc_r; simp [hx]; omega
      · unfold rf_is at hr2
        simp at hr2
        unfold lvB
        simp; omega
  · unfold sc_chg
    rw [List.length_set]
    rcases List.mem_or_eq_of_mem_set hy with hy | rfl
    · exact h.rng y hy
    · show 0 ≤ x.f3 ∧ x.f3 < _
      omega
theorem sim_mod {D M : List (List SO)} {L : List RO} {lv : Int} {Ms : List (List RO)} (h : Sim D M L lv Ms) (n : Int) (l : List S71) : Sim D (M ++ [sc_imps n l]) L lv (Ms ++ [l.map (rf_imp n)]) := by
  refine ⟨h.lv, h.pos, h.rows, h.rng, ?_⟩
  rw [h.mods, List.map_append]
  unfold sc_imps
  simp only [List.map_cons, List.map_nil, List.map_map]
  rfl
theorem sim_names {D M : List (List SO)} {L : List RO} {lv : Int} {Ms : List (List RO)} (h : Sim D M L lv Ms) : rf_names L lv = sc_names D := by
  obtain ⟨hl, hlv⟩ := h.last
  have h2 := h.rows _ _ hl
  rw [hlv] at h2
  unfold rf_names sc_names sc_nms
  rw [show (fun x : RO => decide (x.f3 = lv)) = lvB lv from rfl, h2, List.map_map]
  rfl
theorem sim_exports {D M : List (List SO)} {L : List RO} {lv : Int} {Ms : List (List RO)} (h : Sim D M L lv Ms) : rf_exports L = sc_exports D := by
  have hp := h.pos
  have hd : D[0]? = some (D.getD 0 []) := by rw [List.getD_eq_getElem?_getD, List.getElem?_eq_getElem (by omega)]; rfl
  have h2 := h.rows 0 _ hd
  unfold rf_exports sc_exports sc_exps
  rw [show (fun x : RO => decide (x.f3 = 0)) = lvB ((0 : Nat) : Int) from rfl, h2, List.filter_map, List.map_map]
  rfl

end Go.Proofs.Ytkgjpelddncfdaa.P

/- Which words are hottest: a sorted list made by inserting one by one; any sorted list of the same words is this one. No program in sight. -/
import Derived.Sort.LotA
import Derived.Shelf.SlSortCmp.Insertion
import Derived.Test.YtbhccjoodlldbaaCStab
namespace Go.Proofs.Ytbhccjoodlldbaa.C
open Go.Sort
def ht_ins (v : Int → Int) (k : Int) : List Int → List Int
  | [] => [k]
  | x :: xs => if v k ≤ v x then x :: ht_ins v k xs else k :: x :: xs
def ht_all (v : Int → Int) : Nat → List Int
  | 0 => []
  | k + 1 => if 0 < v (k : Int) then ht_ins v (k : Int) (ht_all v k) else ht_all v k
def ht_pos (v : Int → Int) : Nat → List Int
  | 0 => []
  | k + 1 => if 0 < v (k : Int) then ht_pos v k ++ [(k : Int)] else ht_pos v k
def HtLe (v : Int → Int) (x y : Int) : Prop := v y < v x ∨ (v x = v y ∧ x ≤ y)
theorem ht_ins_perm (v : Int → Int) (k : Int) : ∀ l : List Int, (ht_ins v k l).Perm (k :: l)
  | [] => List.Perm.refl _
  | x :: xs => by
    unfold ht_ins
    split
    · exact ((ht_ins_perm v k xs).cons x).trans (List.Perm.swap k x xs)
    · exact List.Perm.refl _
theorem ht_all_perm (v : Int → Int) : ∀ n, (ht_all v n).Perm (ht_pos v n)
  | 0 => List.Perm.refl _
  | n + 1 => by
    unfold ht_all ht_pos
    split
    · exact (ht_ins_perm v n _).trans (((ht_all_perm v n).cons _).trans (List.perm_append_singleton _ _).symm)
    · exact ht_all_perm v n
theorem ht_pos_lt (v : Int → Int) : ∀ n, ∀ x ∈ ht_pos v n, 0 ≤ x ∧ x < n
  | 0 => fun x h => by simp [ht_pos] at h
  | n + 1 => fun x h => by
    unfold ht_pos at h
    split at h
    · rcases List.mem_append.1 h with h | h
      · have := ht_pos_lt v n x h; omega
      · rw [List.mem_singleton.1 h]; omega
    · have := ht_pos_lt v n x h; omega
theorem ht_pos_le (v : Int → Int) : ∀ n, (ht_pos v n).length ≤ n
  | 0 => Nat.le_refl _
  | n + 1 => by
    have := ht_pos_le v n
    unfold ht_pos
    split
    · rw [List.length_append, List.length_singleton]; omega
    · omega
theorem ht_all_len (v : Int → Int) (n : Nat) : (ht_all v n).length = (ht_pos v n).length := (ht_all_perm v n).length_eq
theorem ht_all_lt (v : Int → Int) (n : Nat) : ∀ x ∈ ht_all v n, 0 ≤ x ∧ x < n := fun x h => ht_pos_lt v n x ((ht_all_perm v n).mem_iff.1 h)
theorem ht_ins_sorted {v : Int → Int} {k : Int} : ∀ {l : List Int}, l.Pairwise (HtLe v) → (∀ x ∈ l, x < k) → (ht_ins v k l).Pairwise (HtLe v)
  | [], _, _ => List.pairwise_singleton _ _
  | x :: xs, hs, hk => by
    obtain ⟨h1, h2⟩ := List.pairwise_cons.1 hs
    unfold ht_ins
    split
    · rename_i hv
      refine List.pairwise_cons.2 ⟨fun y hy => ?_, ht_ins_sorted h2 (fun y hy => hk y (List.mem_cons_of_mem _ hy))⟩
      rcases List.mem_cons.1 ((ht_ins_perm v k xs).mem_iff.1 hy) with rfl | hy
      · have := hk x List.mem_cons_self
        unfold HtLe; omega
      · exact h1 y hy
    · rename_i hv
      refine List.pairwise_cons.2 ⟨fun y hy => ?_, hs⟩
      rcases List.mem_cons.1 hy with rfl | hy
      · unfold HtLe; omega
      · have := h1 y hy
        unfold HtLe at this ⊢; omega
theorem ht_all_sorted (v : Int → Int) : ∀ n, (ht_all v n).Pairwise (HtLe v)
  | 0 => List.Pairwise.nil
  | n + 1 => by
    unfold ht_all
    split
    · exact ht_ins_sorted (ht_all_sorted v n) (fun x hx => (ht_all_lt v n x hx).2)
    · exact ht_all_sorted v n
theorem ht_unique {v : Int → Int} {n : Nat} {l : List Int} (hp : l.Perm (ht_pos v n)) (hs : l.Pairwise (HtLe v)) : l = ht_all v n :=
  List.Perm.eq_of_pairwise (le := HtLe v) (fun a b _ _ h1 h2 => by unfold HtLe at h1 h2; omega) hs (ht_all_sorted v n) (hp.trans (ht_all_perm v n).symm)
theorem ht_ins_at (v : Int → Int) (k : Int) : ∀ (l : List Int) (j : Nat), j ≤ l.length → (∀ i, i < j → v k ≤ v (l.getD i 0)) → (j < l.length → ¬ v k ≤ v (l.getD j 0)) → ht_ins v k l = l.take j ++ [k] ++ l.drop j
  | [], j, hj, _, _ => by
    have : j = 0 := by simpa using hj
    subst this
    rfl
  | x :: xs, 0, _, _, h => by
    have := h (by simp)
    rw [List.getD_cons_zero] at this
    rw [ht_ins, if_neg this]
    rfl
  | x :: xs, j + 1, hj, h1, h2 => by
    have h0 := h1 0 (by omega)
    rw [List.getD_cons_zero] at h0
    rw [ht_ins, if_pos h0, ht_ins_at v k xs j (by simpa using hj) (fun i hi => by have := h1 (i + 1) (by omega); rwa [List.getD_cons_succ] at this) (fun hl => by have := h2 (by simpa using hl); rwa [List.getD_cons_succ] at this)]
    rfl
/-! ### As an array of places -/
theorem ht_fin (v : Int → Int) (L : Nat) : ∀ k, k ≤ L → ∃ l : List (Fin L), l.map (fun x => (x.val : Int)) = ht_pos v k ∧ l.Pairwise (fun x y => x.val < y.val) ∧ ∀ x ∈ l, x.val < k
  | 0, _ => ⟨[], rfl, List.Pairwise.nil, fun x h => by simp at h⟩
  | k + 1, h => by
    obtain ⟨l, h1, h2, h3⟩ := ht_fin v L k (by omega)
    unfold ht_pos
    split
    · refine ⟨l ++ [⟨k, by omega⟩], by rw [List.map_append, h1]; rfl, List.pairwise_append.2 ⟨h2, List.pairwise_singleton _ _, fun x hx y hy => ?_⟩, fun x hx => ?_⟩
      · rw [List.mem_singleton.1 hy]; exact h3 x hx
      · rcases List.mem_append.1 hx with hx | hx
        · have := h3 x hx; omega
        · rw [List.mem_singleton.1 hx]; exact Nat.lt_succ_self _
    · exact ⟨l, h1, h2, fun x hx => by have := h3 x hx; omega⟩
def ht_cmp (a b : Int) : Int := if a < b then -1 else if b < a then 1 else 0
def ht_cf (v : Int → Int) {L : Nat} (x y : Fin L) : Int := ht_cmp (v (y.val : Int)) (v (x.val : Int))
def ht_lt (v : Int → Int) {L : Nat} (x y : Fin L) : Bool := decide (v (y.val : Int) < v (x.val : Int) ∨ (v (x.val : Int) = v (y.val : Int) ∧ x.val < y.val))
def ht_q {L : Nat} (x y : Fin L) : Prop := x.val < y.val
theorem ht_swo (v : Int → Int) (L : Nat) : SWO (ht_lt v (L := L)) where
  irrefl := fun x => by unfold ht_lt; simp
  trans := fun x y z h1 h2 => by
    unfold ht_lt at h1 h2 ⊢
    simp only [decide_eq_true_eq] at h1 h2 ⊢
    omega
  ntrans := fun x y z h1 h2 => by
    unfold ht_lt at h1 h2 ⊢
    simp only [decide_eq_false_iff_not] at h1 h2 ⊢
    omega
theorem ht_test (v : Int → Int) (L : Nat) : StTest (ltOf (ht_cf v (L := L))) (ht_lt v) ht_q := fun x y h => by
  unfold ltOf ht_cf ht_cmp ht_lt
  unfold ht_q at h
  have : (if v (x.val : Int) < v (y.val : Int) then (-1 : Int) else if v (y.val : Int) < v (x.val : Int) then 1 else 0) < 0 ↔ (v (x.val : Int) < v (y.val : Int) ∨ v (y.val : Int) = v (x.val : Int) ∧ y.val < x.val) := by
    constructor
    · intro hh
      split at hh
      · omega
      · split at hh <;> omega
    · intro hh
      rw [if_pos (by omega)]
      omega
  exact decide_eq_decide.2 this
/-- The sort's end is the list. -/
theorem ht_end {v : Int → Int} {L N : Nat} [Inhabited (Fin L)] {d0 d : Array (Fin L)} (h0 : d0.toList.map (fun x => (x.val : Int)) = ht_pos v L) (hN : d0.size = N) (hP : PermIn 0 N d0 d) (hs : SortedIn (ht_lt v) 0 N d) : d.toList.map (fun x => (x.val : Int)) = ht_all v L := by
  obtain ⟨hsz, _, hp⟩ := hP
  have e1 : d.extract 0 N = d := by rw [← hN, ← hsz, Array.extract_size]
  have e0 : d0.extract 0 N = d0 := by rw [← hN, Array.extract_size]
  rw [e1, e0] at hp
  refine ht_unique (h0 ▸ hp.map _) ?_
  rw [List.pairwise_map]
  rw [List.pairwise_iff_getElem]
  intro i j hi hj hij
  have hi' : i < d.size := by simpa using hi
  have hj' : j < d.size := by simpa using hj
  have := hs i j (Nat.zero_le _) hij (by omega)
  rw [getElem!_pos d i hi', getElem!_pos d j hj'] at this
  unfold ht_lt at this
  simp only [decide_eq_false_iff_not] at this
  show HtLe v _ _
  unfold HtLe
  simp only [Array.getElem_toList]
  omega
theorem ht_up {L N : Nat} [Inhabited (Fin L)] {d0 : Array (Fin L)} (hN : d0.size = N) (h : d0.toList.Pairwise (fun x y => x.val < y.val)) : ∀ k l, k < l → l < N → ht_q d0[k]! d0[l]! := fun k l h1 h2 => by
  rw [List.pairwise_iff_getElem] at h
  have := h k l (by simp; omega) (by simp; omega) h1
  rw [getElem!_pos d0 k (by omega), getElem!_pos d0 l (by omega)]
  simpa [ht_q] using this
end Go.Proofs.Ytbhccjoodlldbaa.C

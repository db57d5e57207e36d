/- The order itself: the program's Sort and the reference's are one. -/
import Derived.Test.YtnfgncapmkpcjaaPx1
import Derived.Test.YtnfgncapmkpcjaaPx3
import Derived.Test.YtnfgncapmkpcjaaPx4
import Derived.Test.YtnfgncapmkpcjaaPx5
import Derived.Test.YtnfgncapmkpcjaaPx6
import Derived.Test.YtnfgncapmkpcjaaPx10
import Derived.Test.YtnfgncapmkpcjaaPx11
import Derived.Test.YtnfgncapmkpcjaaPx12
import Derived.Test.YtnfgncapmkpcjaaQOrder
namespace Go.Proofs.Ytnfgncapmkpcjaa.Q
set_option linter.unusedSimpArgs false
set_option linter.unusedVariables false
open Go Go.RowKit Go.Proofs.Ytnfgncapmkpcjaa.P Go.Proofs.Ytnfgncapmkpcjaa.C Go.Proofs.YtnfgncapmkpcjaaW.PrintWords Go.Proofs.YtnfgncapmkpcjaaW.PrintLast Go.Proofs.YtnfgncapmkpcjaaW.PrintMore
theorem od_any {α : Type} (p : α → Bool) : ∀ (us : List α) (i : Int), 0 ≤ i → decide (0 ≤ os_ix p us i) = us.any p
  | [], i, h => by unfold os_ix; rfl
  | u :: us, i, h => by
    unfold os_ix
    by_cases e : p u = true
    · rw [if_pos e, List.any_cons, e, Bool.true_or]; exact decide_eq_true h
    · rw [if_neg e, List.any_cons, od_any p us (i + 1) (by omega)]
      simp at e
      rw [e, Bool.false_or]
/-- May one come: is all placed that it uses, and not itself? -/
def od_rdy (l : List S41) (D : List Bool) (j : Nat) : Bool := (rd_T41 l (j : Int)).f1.all (fun u => rdOf false D (os_find l u)) && !(rdOf false D (j : Int))
theorem od_can (l : List S41) (h : OdOk l) (D : List Bool) (j : Nat) (hj : j < l.length) : os_can l D (rd_T41 l (j : Int)) = od_rdy l D j := by
  unfold os_can od_rdy
  rw [h.uniq j hj, od_any _ _ 0 (by omega), Bool.and_comm]
  congr 1
  generalize (rd_T41 l (j : Int)).f1 = us
  induction us with
  | nil => rfl
  | cons u us ih => rw [List.any_cons, List.all_cons, Bool.not_or, ih]; unfold os_open; rw [Bool.not_not]
theorem od_first_congr (p q : Nat → Bool) : ∀ (d i : Nat), (∀ j, i ≤ j → j < i + d → p j = q j) → od_first p d i = od_first q d i
  | 0, _, _ => rfl
  | d + 1, i, h => by
    rw [od_first, od_first, h i (by omega) (by omega), od_first_congr p q d (i + 1) (fun j h1 h2 => h j (by omega) (by omega))]
theorem od_first_last (p : Nat → Bool) : ∀ (d i : Nat), od_first p (d + 1) i = match od_first p d i with | some j => some j | none => if p (i + d) = true then some (i + d) else none
  | 0, i => by rw [od_first, od_first, od_first]; rfl
  | d + 1, i => by
    rw [od_first, od_first_last p d (i + 1), od_first]
    by_cases e : p i = true
    · rw [if_pos e, if_pos e]
    · rw [if_neg e, if_neg e, show i + 1 + d = i + (d + 1) by omega]
def od_dn (q : Nat → Bool) : Nat → Int → Int
  | 0, x => x
  | d + 1, x => od_dn q d (if q d = true then (d : Int) else x)
theorem od_dn_first (q : Nat → Bool) : ∀ (d : Nat) (x : Int), od_dn q d x = od_n (od_first q d 0) x
  | 0, x => rfl
  | d + 1, x => by
    rw [od_dn, od_dn_first q d, od_first_last]
    cases od_first q d 0 with
    | some j => rfl
    | none =>
      rw [show 0 + d = d by omega]
      by_cases e : q d = true
      · rw [if_pos e, if_pos e]; rfl
      · rw [if_neg e, if_neg e]
        try rfl
theorem od_ready (l : List S41) (h : OdOk l) (D : List Bool) (hD : D.length = l.length) (i : Nat) (hi : i < l.length) (hu : (rd_T41 l (i : Int)).f1.length ≤ 1000) (d : Nat) : ∀ (k j : Nat), j + d = (rd_T41 l (i : Int)).f1.length → 1100 + d < k →
    pascalineref25_ready.l0 k (l.map od_toR) D (i : Int) (j : Int) = some (((rd_T41 l (i : Int)).f1.drop j).all (fun u => rdOf false D (os_find l u)) && !(rdOf false D (i : Int))) := by
  have hl := h.len
  induction d with
  | zero =>
    intro k j hj hk
    obtain ⟨k, rfl⟩ : ∃ m, k = m + 1 := ⟨k - 1, by omega⟩
    simp only [pascalineref25_ready.l0]
    rw [if_pos (by omega), if_pos (by rw [List.length_map]; omega), od_rdR, if_neg (by show ¬ (j : Int) < ((rd_T41 l (i : Int)).f1.length : Int); omega), if_pos (by omega), List.drop_eq_nil_of_le (by omega)]
    rfl
  | succ d ih =>
    intro k j hj hk
    obtain ⟨k, rfl⟩ : ∃ m, k = m + 1 := ⟨k - 1, by omega⟩
    have hlt : j < (rd_T41 l (i : Int)).f1.length := by omega
    have hh := h.has i hi _ (List.getElem_mem hlt)
    have hf := od_find_lt l (rd_T41 l (i : Int)).f1[j]
    simp only [pascalineref25_ready.l0]
    rw [if_pos (by omega), if_pos (by rw [List.length_map]; omega), od_rdR, if_pos (by show (j : Int) < ((rd_T41 l (i : Int)).f1.length : Int); omega), if_pos (by omega)]
    rw [show (od_toR (rd_T41 l (i : Int))).f1 = (rd_T41 l (i : Int)).f1 from rfl, od_rds _ _ hlt, od_Find l _ (by omega) k (by omega), Option.bind_some, if_pos hh, if_pos (by omega), od_wrap (by omega) (by omega), List.drop_eq_getElem_cons hlt, List.all_cons]
    by_cases e : rdOf false D (os_find l (rd_T41 l (i : Int)).f1[j]) = true
    · rw [if_pos e, e, Bool.true_and]; exact ih k (j + 1) (by omega) (by omega)
    · rw [if_neg e]
      simp only [Bool.not_eq_true] at e
      rw [e, Bool.false_and, Bool.false_and]
theorem od_Ready (l : List S41) (h : OdOk l) (D : List Bool) (hD : D.length = l.length) (i : Nat) (hi : i < l.length) (hu : (rd_T41 l (i : Int)).f1.length ≤ 1000) (k : Nat) (hk : 3000 < k) : pascalineref25_ready.f k (l.map od_toR) D (i : Int) = some (od_rdy l D i) := by
  unfold pascalineref25_ready.f
  have := od_ready l h D hD i hi hu (rd_T41 l (i : Int)).f1.length k 0 (by omega) (by omega)
  rw [List.drop_zero] at this
  exact this
theorem od_index (D : List Bool) (hD : D.length ≤ 1000) (d : Nat) : ∀ (k i : Nat), i + d = D.length → d < k → slices_Index_bool_bool.l0 k D false (D.length : Int) (i : Int) = some (od_n (od_first (fun j => !(rdOf false D (j : Int))) d i) (-1)) := by
  induction d with
  | zero =>
    intro k i hi hk
    obtain ⟨k, rfl⟩ : ∃ m, k = m + 1 := ⟨k - 1, by omega⟩
    simp only [slices_Index_bool_bool.l0]
    rw [if_neg (by omega)]
    rfl
  | succ d ih =>
    intro k i hi hk
    obtain ⟨k, rfl⟩ : ∃ m, k = m + 1 := ⟨k - 1, by omega⟩
    simp only [slices_Index_bool_bool.l0]
    rw [if_pos (by omega), if_pos (by omega), if_pos (by omega), od_wrap (by omega) (by omega), od_first]
    cases e : rdOf false D (i : Int)
    · simp only [Bool.not_false, if_true]; rfl
    · simp only [Bool.not_true, Bool.false_eq_true, if_false]
      rw [if_neg (by decide)]
      exact ih k (i + 1) (by omega) (by omega)
/-- The order, step by step. -/
def od_srt (l : List S41) : Nat → List Bool → List Int → List Int × Int × Int
  | 0, _, out => (out, 0, 0)
  | d + 1, D, out => match od_first (od_rdy l D) l.length 0 with
    | some j => od_srt l d (D.set j true) (out ++ [(j : Int)])
    | none => ([], od_n (od_first (fun j => !(rdOf false D (j : Int))) l.length 0) (-1), 143)
theorem od_psort (l : List S41) (h : OdOk l) (d : Nat) : ∀ (k : Nat) (D : List Bool) (out : List Int), D.length = l.length → out.length + d = l.length → d + 1000 < k → order_Sort.lp l k D out = some (od_srt l d D out) := by
  have hl := h.len
  induction d with
  | zero =>
    intro k D out hD ho hk
    obtain ⟨k, rfl⟩ : ∃ m, k = m + 1 := ⟨k - 1, by omega⟩
    rw [order_Sort.lp, if_neg (by omega)]
    rfl
  | succ d ih =>
    intro k D out hD ho hk
    obtain ⟨k, rfl⟩ : ∃ m, k = m + 1 := ⟨k - 1, by omega⟩
    have hix : os_ix (os_can l D) l 0 = od_n (od_first (od_rdy l D) l.length 0) (-1) := by
      have := od_ix (p := os_can l D) l l.length 0 (by omega)
      rw [List.drop_zero] at this
      rw [show (0 : Int) = ((0 : Nat) : Int) from rfl, this, od_first_congr _ (od_rdy l D) _ _ (fun j _ hj => od_can l h D j (by omega))]
    rw [order_Sort.lp, if_pos (by omega), hix, od_srt]
    cases e : od_first (od_rdy l D) l.length 0 with
    | none =>
      have hI : slices_Index_bool_bool.f k D false = some (od_n (od_first (fun j => !(rdOf false D (j : Int))) l.length 0) (-1)) := by
        unfold slices_Index_bool_bool.f
        have := od_index D (by omega) D.length k 0 (by omega) (by omega)
        rw [show (0 : Int) = ((0 : Nat) : Int) from rfl, this, hD]
      rw [if_pos (show od_n none (-1) < 0 by decide), hI]
      rfl
    | some j =>
      obtain ⟨_, hj, _, _⟩ := od_first_some _ _ _ _ e
      rw [if_neg (show ¬ od_n (some j) (-1) < 0 by show ¬ (j : Int) < 0; omega)]
      show order_Sort.lp l k (D.set (j : Int).toNat true) (out ++ [(j : Int)]) = _
      rw [Int.toNat_natCast]
      exact ih k _ _ (by rw [List.length_set]; exact hD) (by rw [List.length_append, List.length_singleton]; omega) (by omega)
/-- All answers of Sort. -/
def od_sort (l : List S41) : List Int × Int × Int := if (od_chk l).2 = 0 then od_srt l l.length (List.replicate l.length false) [] else ([], (od_chk l).1, (od_chk l).2)
theorem od_Sort (l : List S41) (hu : ∀ i : Nat, i < l.length → (rd_T41 l (i : Int)).f1.length ≤ 1000) (k : Nat) (hk : 400000 < k) : order_Sort.f k l = some (od_sort l) := by
  unfold order_Sort.f od_sort
  rw [od_Check l hu k hk, Option.bind_some]
  by_cases e : (od_chk l).2 = 0
  · have ho := (od_ok l e).1
    rw [if_pos e, if_pos e, if_pos (od_good l ho hu)]
    exact od_psort l ho l.length k _ _ List.length_replicate (by simp) (by have := ho.len; omega)
  · rw [if_neg e, if_neg e]
theorem od_rdD (D : List Bool) (j : Nat) (h : j < D.length) : rdOf false D (j : Int) = D[j] := by
  unfold rdOf; rw [Int.toNat_natCast]; simp [List.getD_eq_getElem?_getD, h]
theorem od_count (D : List Bool) (j : Nat) (h : j < D.length) (hf : rdOf false D (j : Int) = false) : (D.set j true).count true = D.count true + 1 := by
  rw [od_rdD D j h] at hf
  rw [List.count_set h, hf]
  simp
theorem od_left (D : List Bool) (n : Nat) (hD : D.length = n) (hc : D.count true < n) : ∃ m, od_first (fun j => !(rdOf false D (j : Int))) n 0 = some m := by
  cases e : od_first (fun j => !(rdOf false D (j : Int))) n 0 with
  | some m => exact ⟨m, rfl⟩
  | none =>
    exfalso
    have hall := od_first_none _ _ _ e
    have : D.count true = D.length := List.count_eq_length.mpr (fun b hb => by
      obtain ⟨j, hj, rfl⟩ := List.getElem_of_mem hb
      have := hall j (by omega) (by omega)
      rw [od_rdD D j hj] at this
      simpa using this.symm)
    omega
theorem od_scan (L : List S47) (out : List Int) (D : List Bool) (rnd x10 : Int) (hD : D.length = L.length) (hL : L.length ≤ 1000) (m : Nat) (d : Nat) : ∀ (k i : Nat), i + d = L.length → d < k → od_first (fun j => !(rdOf false D (j : Int))) d i = some m → pascalineref25_Sort.l2 k L out D rnd x10 (i : Int) = some ([], (m : Int), 143) := by
  induction d with
  | zero => intro k i _ _ h; simp [od_first] at h
  | succ d ih =>
    intro k i hi hk h
    obtain ⟨k, rfl⟩ : ∃ m, k = m + 1 := ⟨k - 1, by omega⟩
    simp only [pascalineref25_Sort.l2]
    rw [if_pos (by omega), if_pos (by omega), if_pos (by omega), od_wrap (by omega) (by omega)]
    rw [od_first] at h
    cases e : rdOf false D (i : Int)
    · rw [if_pos (by rw [e]; rfl)] at h
      injection h with h
      subst h
      rw [if_neg (by decide)]
    · rw [if_neg (by rw [e]; decide)] at h
      rw [if_pos rfl]
      exact ih k (i + 1) (by omega) (by omega) h
theorem od_down (l : List S41) (h : OdOk l) (hu : ∀ i : Nat, i < l.length → (rd_T41 l (i : Int)).f1.length ≤ 1000) (D : List Bool) (hD : D.length = l.length) (out : List Int) (rnd X : Int) (R : Option (List Int × Int × Int)) (K : Nat)
    (hnext : ∀ (k : Nat), K ≤ k → (if X < 0 then pascalineref25_Sort.l2 k (l.map od_toR) out D rnd X 0 else (if 0 ≤ X then (if X < (D.length : Int) then (if out.length < 17592186044416 then pascalineref25_Sort.l0 k (l.map od_toR) (out ++ [X]) (D.set X.toNat true) (wrap64 (rnd + 1)) else none) else none) else none)) = R) (d : Nat) :
    ∀ (k : Nat) (x : Int), d ≤ l.length → K + 3100 + d < k → od_dn (od_rdy l D) d x = X → pascalineref25_Sort.l1 k (l.map od_toR) out D rnd x ((d : Int) - 1) = R := by
  have hl := h.len
  induction d with
  | zero =>
    intro k x hd hk hX
    obtain ⟨k, rfl⟩ : ∃ m, k = m + 1 := ⟨k - 1, by omega⟩
    rw [od_dn] at hX
    subst hX
    simp only [pascalineref25_Sort.l1]
    rw [if_neg (by omega)]
    exact hnext k (by omega)
  | succ d ih =>
    intro k x hd hk hX
    obtain ⟨k, rfl⟩ : ∃ m, k = m + 1 := ⟨k - 1, by omega⟩
    rw [show ((d + 1 : Nat) : Int) - 1 = (d : Int) by omega]
    simp only [pascalineref25_Sort.l1]
    rw [if_pos (by omega), od_Ready l h D hD d (by omega) (hu d (by omega)) k (by omega), Option.bind_some, od_wrapd (by omega) (by omega)]
    rw [od_dn] at hX
    by_cases e : od_rdy l D d = true
    · rw [if_pos e] at hX ⊢; exact ih k _ (by omega) (by omega) hX
    · rw [if_neg e] at hX ⊢; exact ih k _ (by omega) (by omega) hX
theorem od_rsort (l : List S41) (h : OdOk l) (hu : ∀ i : Nat, i < l.length → (rd_T41 l (i : Int)).f1.length ≤ 1000) (d : Nat) : ∀ (k : Nat) (D : List Bool) (out : List Int), D.length = l.length → out.length + d = l.length → D.count true = out.length → 4000 * (d + 2) < k → pascalineref25_Sort.l0 k (l.map od_toR) out D (out.length : Int) = some (od_srt l d D out) := by
  have hl := h.len
  induction d with
  | zero =>
    intro k D out hD ho hc hk
    obtain ⟨k, rfl⟩ : ∃ m, k = m + 1 := ⟨k - 1, by omega⟩
    simp only [pascalineref25_Sort.l0]
    rw [if_neg (by rw [List.length_map]; omega)]
    rfl
  | succ d ih =>
    intro k D out hD ho hc hk
    obtain ⟨k, rfl⟩ : ∃ m, k = m + 1 := ⟨k - 1, by omega⟩
    simp only [pascalineref25_Sort.l0]
    rw [if_pos (by rw [List.length_map]; omega), List.length_map, od_wrapd (by omega) (by omega)]
    obtain ⟨m, hm⟩ := od_left D l.length hD (by omega)
    refine od_down l h hu D hD out (out.length : Int) (od_n (od_first (od_rdy l D) l.length 0) (-1)) _ (4000 * (d + 2) + 1) (fun k' hk' => ?_) l.length k (-1) (by omega) (by omega) (od_dn_first _ _ _)
    rw [od_srt]
    cases e : od_first (od_rdy l D) l.length 0 with
    | none =>
      rw [if_pos (show od_n none (-1) < 0 by decide), hm]
      exact od_scan _ out D _ _ (by rw [List.length_map]; exact hD) (by rw [List.length_map]; omega) m l.length k' 0 (by rw [List.length_map]; omega) (by omega) hm
    | some j =>
      obtain ⟨_, hj, hr, _⟩ := od_first_some _ _ _ _ e
      rw [if_neg (show ¬ od_n (some j) (-1) < 0 by show ¬ (j : Int) < 0; omega), if_pos (show (0 : Int) ≤ od_n (some j) (-1) by show (0 : Int) ≤ (j : Int); omega), if_pos (show od_n (some j) (-1) < (D.length : Int) by show (j : Int) < (D.length : Int); omega), if_pos (by omega)]
      show pascalineref25_Sort.l0 k' (l.map od_toR) (out ++ [(j : Int)]) (D.set (j : Int).toNat true) (wrap64 ((out.length : Int) + 1)) = _
      have hf : rdOf false D (j : Int) = false := by
        unfold od_rdy at hr
        rw [Bool.and_eq_true] at hr
        simpa using hr.2
      rw [Int.toNat_natCast, od_wrap (by omega) (by omega), show (out.length : Int) + 1 = ((out ++ [(j : Int)]).length : Int) by rw [List.length_append, List.length_singleton]; omega]
      exact ih k' _ _ (by rw [List.length_set]; exact hD) (by rw [List.length_append, List.length_singleton]; omega) (by rw [od_count D j (by omega) hf, List.length_append, List.length_singleton, hc]) (by omega)
theorem od_refSort (l : List S41) (hu : ∀ i : Nat, i < l.length → (rd_T41 l (i : Int)).f1.length ≤ 1000) (k : Nat) (hk : 400000 < k) : pascalineref25_Sort.f k (l.map od_toR) = some (od_sort l) := by
  unfold pascalineref25_Sort.f od_sort
  rw [od_refCheck l hu k hk, Option.bind_some, List.length_map]
  by_cases e : (od_chk l).2 = 0
  · have ho := (od_ok l e).1
    have hl := ho.len
    rw [if_pos e, if_pos e, if_pos (by omega), if_pos (by omega), Int.toNat_natCast]
    have := od_rsort l ho hu l.length k (List.replicate l.length false) [] List.length_replicate (by simp) (by simp [List.count_replicate]) (by omega)
    exact this
  · rw [if_neg e, if_neg e]
theorem od_few (l : List S41) (d : Nat) (hl : l.length ≤ 100) : ∀ (k i : Nat), i + d = l.length → d < k → ∃ b, pascalinelaw25_few.l0 k l (i : Int) = some b ∧ (b = true → ∀ j : Nat, i ≤ j → j < l.length → (rd_T41 l (j : Int)).f1.length ≤ 20) := by
  induction d with
  | zero =>
    intro k i hi hk
    obtain ⟨k, rfl⟩ : ∃ m, k = m + 1 := ⟨k - 1, by omega⟩
    refine ⟨true, ?_, fun _ j h1 h2 => by omega⟩
    simp only [pascalinelaw25_few.l0]
    rw [if_neg (by omega)]
  | succ d ih =>
    intro k i hi hk
    obtain ⟨k, rfl⟩ : ∃ m, k = m + 1 := ⟨k - 1, by omega⟩
    simp only [pascalinelaw25_few.l0]
    rw [if_pos (by omega), if_pos (by omega), od_wrap (by omega) (by omega)]
    by_cases h : ((rd_T41 l (i : Int)).f1.length : Int) > 20
    · exact ⟨false, by rw [if_pos h], fun e => by cases e⟩
    · rw [if_neg h]
      obtain ⟨b, hb, hall⟩ := ih k (i + 1) (by omega) (by omega)
      refine ⟨b, hb, fun e j h1 h2 => ?_⟩
      by_cases hj : j = i
      · subst hj; omega
      · exact hall e j (by omega) h2
theorem od_Few (l : List S41) (k : Nat) (hk : 200 < k) : ∃ b, pascalinelaw25_few.f k l = some b ∧ (b = true → l.length ≤ 100 ∧ ∀ j : Nat, j < l.length → (rd_T41 l (j : Int)).f1.length ≤ 20) := by
  unfold pascalinelaw25_few.f
  by_cases hl : (l.length : Int) > 100
  · exact ⟨false, by rw [if_pos hl], fun e => by cases e⟩
  · rw [if_neg hl]
    obtain ⟨b, hb, h⟩ := od_few l l.length (by omega) k 0 (by omega) (by omega)
    exact ⟨b, hb, fun e => ⟨by omega, fun j hj => h e j (by omega) hj⟩⟩
theorem od_same (a : List Int) (ha : a.length ≤ 1000) (d : Nat) : ∀ (k i : Nat), i + d = a.length → d < k → pascalinelaw25_same.l0 k a a (i : Int) = some true := by
  induction d with
  | zero =>
    intro k i hi hk
    obtain ⟨k, rfl⟩ : ∃ m, k = m + 1 := ⟨k - 1, by omega⟩
    simp only [pascalinelaw25_same.l0]
    rw [if_neg (by omega)]
  | succ d ih =>
    intro k i hi hk
    obtain ⟨k, rfl⟩ : ∃ m, k = m + 1 := ⟨k - 1, by omega⟩
    simp only [pascalinelaw25_same.l0]
    rw [if_pos (by omega), if_pos (by omega), if_pos (by omega), if_pos trivial, od_wrap (by omega) (by omega)]
    exact ih k (i + 1) (by omega) (by omega)
theorem od_Same (a : List Int) (ha : a.length ≤ 1000) (k : Nat) (hk : 1000 < k) : pascalinelaw25_same.f k a a = some true := by
  unfold pascalinelaw25_same.f
  rw [if_pos rfl]
  exact od_same a ha a.length k 0 (by omega) (by omega)
theorem od_srt_len (l : List S41) (d : Nat) : ∀ (D : List Bool) (out : List Int), out.length + d ≤ l.length → (od_srt l d D out).1.length ≤ l.length := by
  induction d with
  | zero => intro D out h; exact h
  | succ d ih =>
    intro D out h
    rw [od_srt]
    cases e : od_first (od_rdy l D) l.length 0 with
    | none => exact Nat.zero_le _
    | some j => exact ih _ _ (by rw [List.length_append, List.length_singleton]; omega)
theorem od_sort_len (l : List S41) : (od_sort l).1.length ≤ l.length := by
  unfold od_sort
  by_cases e : (od_chk l).2 = 0
  · rw [if_pos e]; exact od_srt_len l _ _ _ (by simp)
  · rw [if_neg e]; exact Nat.zero_le _
theorem od_awake : pascalinelaw25_awake.f 300 = some true := by kernel_rfl
theorem od_awake_k (k : Nat) (hk : 300 ≤ k) : pascalinelaw25_awake.f k = some true := at_rounds (g := fun k => pascalinelaw25_awake.f k) pascalinelaw25_awake.mono hk od_awake
end Go.Proofs.Ytnfgncapmkpcjaa.Q

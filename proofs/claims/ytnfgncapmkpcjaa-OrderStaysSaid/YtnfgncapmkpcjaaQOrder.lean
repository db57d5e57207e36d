/- What the modules' order comes to: the program's answers and the reference's, as plain functions of the items. -/
import Derived.Test.YtnfgncapmkpcjaaPx1
import Derived.Test.YtnfgncapmkpcjaaPx2
import Derived.Test.YtnfgncapmkpcjaaPx4
import Derived.Test.YtnfgncapmkpcjaaPx7
import Derived.Test.YtnfgncapmkpcjaaPx8
import Derived.Test.YtnfgncapmkpcjaaPx9
import Derived.Test.YtnfgncapmkpcjaaCReach
namespace Go.Proofs.Ytnfgncapmkpcjaa.Q
set_option linter.unusedSimpArgs false
set_option linter.unusedVariables false
open Go Go.RowKit Go.Proofs.Ytnfgncapmkpcjaa.P Go.Proofs.Ytnfgncapmkpcjaa.C Go.Proofs.YtnfgncapmkpcjaaW.PrintWords Go.Proofs.YtnfgncapmkpcjaaW.PrintLast Go.Proofs.YtnfgncapmkpcjaaW.PrintMore
def od_toR (x : S41) : S47 := ⟨x.f0, x.f1⟩
theorem od_rdR (l : List S41) (i : Int) : rd_T47 (l.map od_toR) i = od_toR (rd_T41 l i) := by
  unfold rd_T47 rd_T41
  rw [show z47 = od_toR z41 from rfl]
  simp [List.getD_eq_getElem?_getD, Option.getD_map]
theorem od_rd (l : List S41) (i : Nat) (h : i < l.length) : rd_T41 l (i : Int) = l[i] := by
  unfold rd_T41; rw [Int.toNat_natCast]; simp [List.getD_eq_getElem?_getD, h]
theorem od_wrap {i : Int} (h0 : -1000 ≤ i) (h : i ≤ 1000000) : wrap64 (i + 1) = i + 1 := by unfold wrap64; omega
theorem od_wrapd {i : Int} (h0 : -1000 ≤ i) (h : i ≤ 1000000) : wrap64 (i - 1) = i - 1 := by unfold wrap64; omega
theorem od_mem (l : List S41) (i : Nat) (h : i < l.length) : rd_T41 l (i : Int) ∈ l := by rw [od_rd l i h]; exact List.getElem_mem h
theorem od_ref (l : List S41) (hl : l.length ≤ 1000) (d : Nat) : ∀ (k i : Nat), i + d = l.length → d < k → pascalinelaw25_Ref.l0 k l ((l.take i).map od_toR) (i : Int) = some (l.map od_toR) := by
  induction d with
  | zero =>
    intro k i hi hk
    obtain ⟨k, rfl⟩ : ∃ m, k = m + 1 := ⟨k - 1, by omega⟩
    simp only [pascalinelaw25_Ref.l0]
    rw [if_neg (by omega), List.take_of_length_le (by omega)]
  | succ d ih =>
    intro k i hi hk
    obtain ⟨k, rfl⟩ : ∃ m, k = m + 1 := ⟨k - 1, by omega⟩
    have hlt : i < l.length := by omega
    simp only [pascalinelaw25_Ref.l0]
    rw [if_pos (by omega), if_pos (by omega), if_pos (by rw [List.length_map, List.length_take]; omega), od_wrap (by omega) (by omega)]
    have e : (l.take i).map od_toR ++ [(⟨(rd_T41 l (i : Int)).f0, (rd_T41 l (i : Int)).f1⟩ : S47)] = (l.take (i + 1)).map od_toR := by
      rw [List.take_succ_eq_append_getElem hlt, List.map_append, od_rd l i hlt]; rfl
    rw [e]
    exact ih k (i + 1) (by omega) (by omega)
theorem od_Ref (l : List S41) (hl : l.length ≤ 1000) (k : Nat) (hk : 1000 < k) : pascalinelaw25_Ref.f k l = some (l.map od_toR) := by
  unfold pascalinelaw25_Ref.f
  exact od_ref l hl l.length k 0 (by omega) (by omega)
theorem od_find (l : List S41) (a : ByteArray) (hl : l.length ≤ 1000) (d : Nat) : ∀ (k i : Nat), i + d = l.length → d < k → pascalineref25_Find.l0 k (l.map od_toR) a (i : Int) = some (os_ix (os_is a) (l.drop i) (i : Int)) := by
  induction d with
  | zero =>
    intro k i hi hk
    obtain ⟨k, rfl⟩ : ∃ m, k = m + 1 := ⟨k - 1, by omega⟩
    simp only [pascalineref25_Find.l0]
    rw [if_neg (by rw [List.length_map]; omega), List.drop_eq_nil_of_le (by omega)]
    rfl
  | succ d ih =>
    intro k i hi hk
    obtain ⟨k, rfl⟩ : ∃ m, k = m + 1 := ⟨k - 1, by omega⟩
    have hlt : i < l.length := by omega
    simp only [pascalineref25_Find.l0]
    rw [if_pos (by rw [List.length_map]; omega), if_pos (by omega), od_rdR, od_wrap (by omega) (by omega), List.drop_eq_getElem_cons hlt]
    unfold os_ix
    rw [← od_rd l i hlt]
    by_cases h : (od_toR (rd_T41 l (i : Int))).f0.toList = a.toList
    · rw [if_pos h, if_pos (show os_is a (rd_T41 l (i : Int)) = true from beq_iff_eq.mpr h)]
    · rw [if_neg h, if_neg (show ¬ os_is a (rd_T41 l (i : Int)) = true from fun e => h (beq_iff_eq.mp e))]
      exact ih k (i + 1) (by omega) (by omega)
theorem od_Find (l : List S41) (a : ByteArray) (hl : l.length ≤ 1000) (k : Nat) (hk : 1000 < k) : pascalineref25_Find.f k (l.map od_toR) a = some (os_find l a) := by
  unfold pascalineref25_Find.f
  exact od_find l a hl l.length k 0 (by omega) (by omega)
theorem od_pfind (l : List S41) (a : ByteArray) (hl : l.length ≤ 1000) : order_find.f l a = some (os_find l a) := by unfold order_find.f; rw [if_pos (by omega)]
/-- The first place from i on, of d, that is so. -/
def od_first (p : Nat → Bool) : Nat → Nat → Option Nat
  | 0, _ => none
  | d + 1, i => if p i = true then some i else od_first p d (i + 1)
theorem od_first_some (p : Nat → Bool) : ∀ (d i j : Nat), od_first p d i = some j → i ≤ j ∧ j < i + d ∧ p j = true ∧ ∀ m, i ≤ m → m < j → p m = false
  | 0, _, _, h => by simp [od_first] at h
  | d + 1, i, j, h => by
    unfold od_first at h
    by_cases e : p i = true
    · rw [if_pos e] at h
      injection h with h
      subst h
      exact ⟨by omega, by omega, e, fun m h1 h2 => by omega⟩
    · rw [if_neg e] at h
      obtain ⟨h1, h2, h3, h4⟩ := od_first_some p d (i + 1) j h
      refine ⟨by omega, by omega, h3, fun m h5 h6 => ?_⟩
      by_cases hm : m = i
      · subst hm; simpa using e
      · exact h4 m (by omega) h6
theorem od_first_none (p : Nat → Bool) : ∀ (d i : Nat), od_first p d i = none → ∀ m, i ≤ m → m < i + d → p m = false
  | 0, _, _ => fun m h1 h2 => by omega
  | d + 1, i, h => by
    unfold od_first at h
    by_cases e : p i = true
    · rw [if_pos e] at h; cases h
    · rw [if_neg e] at h
      intro m h1 h2
      by_cases hm : m = i
      · subst hm; simpa using e
      · exact od_first_none p d (i + 1) h m (by omega) (by omega)
def od_n (o : Option Nat) (z : Int) : Int := match o with | some j => (j : Int) | none => z
theorem od_ix {p : S41 → Bool} (l : List S41) (d : Nat) : ∀ i, i + d = l.length → os_ix p (l.drop i) (i : Int) = od_n (od_first (fun j => p (rd_T41 l (j : Int))) d i) (-1) := by
  induction d with
  | zero => intro i hi; rw [List.drop_eq_nil_of_le (by omega)]; rfl
  | succ d ih =>
    intro i hi
    have hlt : i < l.length := by omega
    rw [List.drop_eq_getElem_cons hlt]
    unfold os_ix od_first
    rw [← od_rd l i hlt]
    by_cases h : p (rd_T41 l (i : Int)) = true
    · rw [if_pos h, if_pos h]; rfl
    · rw [if_neg h, if_neg h]; exact ih (i + 1) (by omega)
/-- The place of a name, where there is one. -/
theorem od_find_first (l : List S41) (a : ByteArray) : os_find l a = od_n (od_first (fun j => os_is a (rd_T41 l (j : Int))) l.length 0) (-1) := od_ix l l.length 0 (by omega)
theorem od_find_lt (l : List S41) (a : ByteArray) : os_find l a < l.length := by
  have h := os_ix_lt (os_is a) l 0
  unfold os_find
  omega
theorem od_find_ge (l : List S41) (a : ByteArray) : -1 ≤ os_find l a := by
  have h := os_ix_lt (os_is a) l 0
  unfold os_find
  omega
theorem od_find_own (l : List S41) (i : Nat) (h : i < l.length) : 0 ≤ os_find l (rd_T41 l (i : Int)).f0 ∧ os_find l (rd_T41 l (i : Int)).f0 ≤ i := by
  rw [od_find_first]
  cases e : od_first (fun j => os_is (rd_T41 l (i : Int)).f0 (rd_T41 l (j : Int))) l.length 0 with
  | none =>
    have := od_first_none _ _ _ e i (by omega) (by omega)
    simp [os_is] at this
  | some j =>
    obtain ⟨_, h2, h3, h4⟩ := od_first_some _ _ _ _ e
    refine ⟨by show (0 : Int) ≤ (j : Int); omega, ?_⟩
    show (j : Int) ≤ (i : Int)
    rcases Nat.lt_or_ge i j with h5 | h5
    · have := h4 i (by omega) h5
      simp [os_is] at this
    · omega
theorem od_find_take (l : List S41) (a : ByteArray) (i : Nat) (hi : i ≤ l.length) : (0 ≤ os_find (l.take i) a) ↔ (0 ≤ os_find l a ∧ os_find l a < i) := by
  rw [od_find_first, od_find_first]
  have hrd : ∀ j : Nat, j < i → rd_T41 (l.take i) (j : Int) = rd_T41 l (j : Int) := by
    intro j hj
    rw [od_rd _ _ (by rw [List.length_take]; omega), od_rd _ _ (by omega), List.getElem_take]
  rw [List.length_take, Nat.min_eq_left hi]
  cases e : od_first (fun j => os_is a (rd_T41 (l.take i) (j : Int))) i 0 with
  | none =>
    have h1 := od_first_none _ _ _ e
    constructor
    · intro h; exact absurd h (by show ¬ (0 : Int) ≤ -1; omega)
    · rintro ⟨h2, h3⟩
      cases e2 : od_first (fun j => os_is a (rd_T41 l (j : Int))) l.length 0 with
      | none => rw [e2] at h2; exact absurd h2 (by show ¬ (0 : Int) ≤ -1; omega)
      | some j =>
        rw [e2] at h3
        have h3' : (j : Int) < i := h3
        obtain ⟨_, _, h5, _⟩ := od_first_some _ _ _ _ e2
        have h6 := h1 j (by omega) (by omega)
        rw [hrd j (by omega)] at h6
        rw [h6] at h5
        cases h5
  | some j =>
    obtain ⟨_, h2, h3, h4⟩ := od_first_some _ _ _ _ e
    refine ⟨fun _ => ?_, fun _ => by show (0 : Int) ≤ (j : Int); omega⟩
    cases e2 : od_first (fun j => os_is a (rd_T41 l (j : Int))) l.length 0 with
    | none =>
      have h6 := od_first_none _ _ _ e2 j (by omega) (by omega)
      rw [hrd j (by omega), h6] at h3
      cases h3
    | some m =>
      obtain ⟨_, _, h5, h6⟩ := od_first_some _ _ _ _ e2
      refine ⟨by show (0 : Int) ≤ (m : Int); omega, ?_⟩
      show (m : Int) < i
      rcases Nat.lt_or_ge j m with h7 | h7
      · have := h6 j (by omega) h7
        rw [hrd j (by omega), this] at h3
        cases h3
      · omega
/-- The first of whom a name stands twice; the first that uses what isn't there. -/
def od_dup (l : List S41) (i : Nat) : Bool := decide (os_find l (rd_T41 l (i : Int)).f0 < i)
def od_mis (l : List S41) (i : Nat) : Bool := (rd_T41 l (i : Int)).f1.any (fun u => decide (os_find l u < 0))
def od_chk (l : List S41) : Int × Int :=
  if (l.length : Int) > 64 then (64, 243) else match od_first (od_dup l) l.length 0 with
  | some i => ((i : Int), 51)
  | none => match od_first (od_mis l) l.length 0 with
    | some i => ((i : Int), 144)
    | none => (0, 0)
def od_chk1 (l : List S41) (d i : Nat) : Int × Int := match od_first (od_mis l) d i with
  | some i => ((i : Int), 144)
  | none => (0, 0)
theorem od_chk1_succ (l : List S41) (d i : Nat) : od_chk1 l (d + 1) i = if od_mis l i = true then ((i : Int), 144) else od_chk1 l d (i + 1) := by
  unfold od_chk1
  rw [od_first]
  by_cases e : od_mis l i = true
  · rw [if_pos e, if_pos e]
  · rw [if_neg e, if_neg e]
theorem od_rds (us : List ByteArray) (j : Nat) (h : j < us.length) : rdOf ByteArray.empty us (j : Int) = us[j] := by
  unfold rdOf; rw [Int.toNat_natCast]; simp [List.getD_eq_getElem?_getD, h]
theorem od_rc2 (l : List S41) (hl : l.length ≤ 64) (i : Nat) (hi : i < l.length) (R : Int × Int) (K : Nat)
    (hnext : ∀ k, K ≤ k → pascalineref25_Check.l1 k (l.map od_toR) ((i + 1 : Nat) : Int) = some R) (hu : (rd_T41 l (i : Int)).f1.length ≤ 1000) (d : Nat) : ∀ (k j : Nat), j + d = (rd_T41 l (i : Int)).f1.length → K + 1100 + d < k →
    pascalineref25_Check.l2 k (l.map od_toR) (i : Int) (j : Int) = some (if ((rd_T41 l (i : Int)).f1.drop j).any (fun u => decide (os_find l u < 0)) = true then ((i : Int), 144) else R) := by
  induction d with
  | zero =>
    intro k j hj hk
    obtain ⟨k, rfl⟩ : ∃ m, k = m + 1 := ⟨k - 1, by omega⟩
    simp only [pascalineref25_Check.l2]
    rw [if_pos (by omega), if_pos (by rw [List.length_map]; omega), od_rdR, if_neg (by show ¬ (j : Int) < ((rd_T41 l (i : Int)).f1.length : Int); omega), od_wrap (by omega) (by omega), List.drop_eq_nil_of_le (by omega)]
    rw [List.any_nil, if_neg (by simp)]
    exact hnext k (by omega)
  | succ d ih =>
    intro k j hj hk
    obtain ⟨k, rfl⟩ : ∃ m, k = m + 1 := ⟨k - 1, by omega⟩
    have hlt : j < (rd_T41 l (i : Int)).f1.length := by omega
    simp only [pascalineref25_Check.l2]
    rw [if_pos (by omega), if_pos (by rw [List.length_map]; omega), od_rdR, if_pos (by show (j : Int) < ((rd_T41 l (i : Int)).f1.length : Int); omega), if_pos (by omega)]
    rw [show (od_toR (rd_T41 l (i : Int))).f1 = (rd_T41 l (i : Int)).f1 from rfl, od_Find l _ (by omega) k (by omega), Option.bind_some, od_wrap (by omega) (by omega), List.drop_eq_getElem_cons hlt, List.any_cons, od_rds _ _ hlt]
    by_cases h : os_find l (rd_T41 l (i : Int)).f1[j] < 0
    · rw [if_pos h, decide_eq_true h, Bool.true_or, if_pos rfl]
    · rw [if_neg h, decide_eq_false h, Bool.false_or]
      exact ih k (j + 1) (by omega) (by omega)
theorem od_rc1 (l : List S41) (hl : l.length ≤ 64) (hu : ∀ i : Nat, i < l.length → (rd_T41 l (i : Int)).f1.length ≤ 1000) (d : Nat) : ∀ (k i : Nat), i + d = l.length → 3000 * (d + 1) < k → pascalineref25_Check.l1 k (l.map od_toR) (i : Int) = some (od_chk1 l d i) := by
  induction d with
  | zero =>
    intro k i hi hk
    obtain ⟨k, rfl⟩ : ∃ m, k = m + 1 := ⟨k - 1, by omega⟩
    simp only [pascalineref25_Check.l1]
    rw [if_neg (by rw [List.length_map]; omega)]
    rfl
  | succ d ih =>
    intro k i hi hk
    obtain ⟨k, rfl⟩ : ∃ m, k = m + 1 := ⟨k - 1, by omega⟩
    have hlt : i < l.length := by omega
    simp only [pascalineref25_Check.l1]
    rw [if_pos (by rw [List.length_map]; omega)]
    have h := od_rc2 l hl i hlt (od_chk1 l d (i + 1)) (3000 * (d + 1) + 1) (fun k' hk' => ih k' (i + 1) (by omega) (by omega)) (hu i hlt) (rd_T41 l (i : Int)).f1.length k 0 (by omega) (by have := hu i hlt; omega)
    rw [show ((0 : Nat) : Int) = 0 from rfl, List.drop_zero] at h
    rw [h, od_chk1_succ]
    rfl
theorem od_rc0 (l : List S41) (hl : l.length ≤ 64) (hu : ∀ i : Nat, i < l.length → (rd_T41 l (i : Int)).f1.length ≤ 1000) (d : Nat) : ∀ (k i : Nat), i + d = l.length → 300000 + d < k → pascalineref25_Check.l0 k (l.map od_toR) (i : Int) = some (match od_first (od_dup l) d i with | some i => ((i : Int), 51) | none => od_chk1 l l.length 0) := by
  induction d with
  | zero =>
    intro k i hi hk
    obtain ⟨k, rfl⟩ : ∃ m, k = m + 1 := ⟨k - 1, by omega⟩
    simp only [pascalineref25_Check.l0]
    rw [if_neg (by rw [List.length_map]; omega)]
    exact od_rc1 l hl hu l.length k 0 (by omega) (by omega)
  | succ d ih =>
    intro k i hi hk
    obtain ⟨k, rfl⟩ : ∃ m, k = m + 1 := ⟨k - 1, by omega⟩
    have hlt : i < l.length := by omega
    simp only [pascalineref25_Check.l0]
    rw [if_pos (by rw [List.length_map]; omega), if_pos (by omega), od_rdR, show (od_toR (rd_T41 l (i : Int))).f0 = (rd_T41 l (i : Int)).f0 from rfl, od_Find l _ (by omega) k (by omega), Option.bind_some, od_wrap (by omega) (by omega)]
    unfold od_first od_dup
    by_cases h : os_find l (rd_T41 l (i : Int)).f0 < i
    · rw [if_pos h, if_pos (decide_eq_true h)]
    · rw [if_neg h, if_neg (by simpa using h)]
      exact ih k (i + 1) (by omega) (by omega)
theorem od_refCheck (l : List S41) (hu : ∀ i : Nat, i < l.length → (rd_T41 l (i : Int)).f1.length ≤ 1000) (k : Nat) (hk : 400000 < k) : pascalineref25_Check.f k (l.map od_toR) = some (od_chk l) := by
  unfold pascalineref25_Check.f od_chk
  rw [List.length_map]
  by_cases h : (l.length : Int) > 64
  · rw [if_pos h, if_pos h]
  · rw [if_neg h, if_neg h]
    exact od_rc0 l (by omega) hu l.length k 0 (by omega) (by omega)
theorem od_pc2 (l : List S41) (hl : l.length ≤ 64) (i : Nat) (hi : i < l.length) (R : Int × Int) (K : Nat)
    (hnext : ∀ k, K ≤ k → order_Check.l1 k l l (l.length : Int) ((i + 1 : Nat) : Int) = some R) (hu : (rd_T41 l (i : Int)).f1.length ≤ 1000) (d : Nat) : ∀ (k j : Nat), j + d = (rd_T41 l (i : Int)).f1.length → K + 1100 + d < k →
    order_Check.l2 k l (i : Int) l (l.length : Int) (i : Int) (rd_T41 l (i : Int)).f1 ((rd_T41 l (i : Int)).f1.length : Int) (j : Int) = some (if ((rd_T41 l (i : Int)).f1.drop j).any (fun u => decide (os_find l u < 0)) = true then ((i : Int), 144) else R) := by
  induction d with
  | zero =>
    intro k j hj hk
    obtain ⟨k, rfl⟩ : ∃ m, k = m + 1 := ⟨k - 1, by omega⟩
    simp only [order_Check.l2]
    rw [if_neg (by omega), od_wrap (by omega) (by omega), List.drop_eq_nil_of_le (by omega)]
    rw [List.any_nil, if_neg (by simp)]
    exact hnext k (by omega)
  | succ d ih =>
    intro k j hj hk
    obtain ⟨k, rfl⟩ : ∃ m, k = m + 1 := ⟨k - 1, by omega⟩
    have hlt : j < (rd_T41 l (i : Int)).f1.length := by omega
    simp only [order_Check.l2]
    rw [if_pos (by omega), if_pos (by omega), if_pos (by omega), od_pfind l _ (by omega), Option.bind_some, od_wrap (by omega) (by omega), List.drop_eq_getElem_cons hlt, List.any_cons, od_rds _ _ hlt]
    by_cases h : os_find l (rd_T41 l (i : Int)).f1[j] < 0
    · rw [if_pos h, decide_eq_true h, Bool.true_or, if_pos rfl]
    · rw [if_neg h, decide_eq_false h, Bool.false_or]
      exact ih k (j + 1) (by omega) (by omega)
theorem od_pc1 (l : List S41) (hl : l.length ≤ 64) (hu : ∀ i : Nat, i < l.length → (rd_T41 l (i : Int)).f1.length ≤ 1000) (d : Nat) : ∀ (k i : Nat), i + d = l.length → 3000 * (d + 1) < k → order_Check.l1 k l l (l.length : Int) (i : Int) = some (od_chk1 l d i) := by
  induction d with
  | zero =>
    intro k i hi hk
    obtain ⟨k, rfl⟩ : ∃ m, k = m + 1 := ⟨k - 1, by omega⟩
    simp only [order_Check.l1]
    rw [if_neg (by omega)]
    rfl
  | succ d ih =>
    intro k i hi hk
    obtain ⟨k, rfl⟩ : ∃ m, k = m + 1 := ⟨k - 1, by omega⟩
    have hlt : i < l.length := by omega
    simp only [order_Check.l1]
    rw [if_pos (by omega), if_pos (by omega), if_pos (by omega)]
    have h := od_pc2 l hl i hlt (od_chk1 l d (i + 1)) (3000 * (d + 1) + 1) (fun k' hk' => ih k' (i + 1) (by omega) (by omega)) (hu i hlt) (rd_T41 l (i : Int)).f1.length k 0 (by omega) (by have := hu i hlt; omega)
    rw [show ((0 : Nat) : Int) = 0 from rfl, List.drop_zero] at h
    rw [h, od_chk1_succ]
    rfl
theorem od_pc0 (l : List S41) (hl : l.length ≤ 64) (hu : ∀ i : Nat, i < l.length → (rd_T41 l (i : Int)).f1.length ≤ 1000) (d : Nat) : ∀ (k i : Nat), i + d = l.length → 300000 + d < k → order_Check.l0 k l l (l.length : Int) (i : Int) = some (match od_first (od_dup l) d i with | some i => ((i : Int), 51) | none => od_chk1 l l.length 0) := by
  induction d with
  | zero =>
    intro k i hi hk
    obtain ⟨k, rfl⟩ : ∃ m, k = m + 1 := ⟨k - 1, by omega⟩
    simp only [order_Check.l0]
    rw [if_neg (by omega)]
    exact od_pc1 l hl hu l.length k 0 (by omega) (by omega)
  | succ d ih =>
    intro k i hi hk
    obtain ⟨k, rfl⟩ : ∃ m, k = m + 1 := ⟨k - 1, by omega⟩
    have hlt : i < l.length := by omega
    simp only [order_Check.l0]
    rw [if_pos (by omega), if_pos (by omega), if_pos (by omega), if_pos (by omega), Int.toNat_natCast, od_pfind _ _ (by rw [List.length_take]; omega), Option.bind_some, od_wrap (by omega) (by omega)]
    have ht := od_find_take l (rd_T41 l (i : Int)).f0 i (by omega)
    have ho := od_find_own l i hlt
    unfold od_first od_dup
    by_cases h : os_find l (rd_T41 l (i : Int)).f0 < i
    · rw [if_pos (by have := ht.mpr ⟨ho.1, h⟩; omega), if_pos (decide_eq_true h)]
    · rw [if_neg (fun hx => h (ht.mp hx).2), if_neg (by simpa using h)]
      exact ih k (i + 1) (by omega) (by omega)
theorem od_Check (l : List S41) (hu : ∀ i : Nat, i < l.length → (rd_T41 l (i : Int)).f1.length ≤ 1000) (k : Nat) (hk : 400000 < k) : order_Check.f k l = some (od_chk l) := by
  unfold order_Check.f od_chk
  by_cases h : (l.length : Int) > 64
  · rw [if_pos h, if_pos h]
  · rw [if_neg h, if_neg h]
    exact od_pc0 l (by omega) hu l.length k 0 (by omega) (by omega)
/-- What is known where nothing is wrong. -/
structure OdOk (l : List S41) : Prop where
  len : l.length ≤ 64
  uniq : ∀ i : Nat, i < l.length → os_find l (rd_T41 l (i : Int)).f0 = (i : Int)
  has : ∀ i : Nat, i < l.length → ∀ u ∈ (rd_T41 l (i : Int)).f1, 0 ≤ os_find l u
theorem od_ok (l : List S41) (h : (od_chk l).2 = 0) : OdOk l ∧ od_chk l = (0, 0) := by
  unfold od_chk at h ⊢
  by_cases h64 : (l.length : Int) > 64
  · rw [if_pos h64] at h; exact absurd h (by decide)
  · rw [if_neg h64] at h ⊢
    cases e1 : od_first (od_dup l) l.length 0 with
    | some i => rw [e1] at h; exact absurd h (by show ¬ (51 : Int) = 0; omega)
    | none =>
      rw [e1] at h
      cases e2 : od_first (od_mis l) l.length 0 with
      | some i => rw [e2] at h; exact absurd h (by show ¬ (144 : Int) = 0; omega)
      | none =>
        refine ⟨⟨by omega, fun i hi => ?_, fun i hi u hu => ?_⟩, rfl⟩
        · have h1 := od_first_none _ _ _ e1 i (by omega) (by omega)
          have h2 := of_decide_eq_false h1
          have h3 := od_find_own l i hi
          omega
        · have h1 := od_first_none _ _ _ e2 i (by omega) (by omega)
          have h2 := List.any_eq_false.mp h1 u hu
          simp at h2
          omega
theorem od_good (l : List S41) (h : OdOk l) (hu : ∀ i : Nat, i < l.length → (rd_T41 l (i : Int)).f1.length ≤ 1000) : os_good l = true := by
  unfold os_good
  rw [Bool.and_eq_true]
  refine ⟨decide_eq_true (by have := h.len; omega), List.all_eq_true.mpr (fun x hx => ?_)⟩
  obtain ⟨i, hi, rfl⟩ := List.getElem_of_mem hx
  rw [← od_rd l i hi, Bool.and_eq_true, Bool.and_eq_true]
  exact ⟨decide_eq_true (by have := h.uniq i hi; omega), decide_eq_true (by have := hu i hi; omega), List.all_eq_true.mpr (fun u hu' => decide_eq_true (h.has i hi u hu'))⟩
end Go.Proofs.Ytnfgncapmkpcjaa.Q

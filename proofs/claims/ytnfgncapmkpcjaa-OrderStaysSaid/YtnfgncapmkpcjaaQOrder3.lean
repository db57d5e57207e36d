/- To what one comes: the program's walk over open names and the reference's rounds come to one set. -/
import Derived.Test.YtnfgncapmkpcjaaPx1
import Derived.Test.YtnfgncapmkpcjaaPx14
import Derived.Test.YtnfgncapmkpcjaaPx18
import Derived.Test.YtnfgncapmkpcjaaQOrder2
namespace Go.Proofs.Ytnfgncapmkpcjaa.Q
set_option linter.unusedSimpArgs false
set_option linter.unusedVariables false
open Go Go.RowKit Go.Proofs.Ytnfgncapmkpcjaa.P Go.Proofs.Ytnfgncapmkpcjaa.C Go.Proofs.YtnfgncapmkpcjaaW.PrintWords Go.Proofs.YtnfgncapmkpcjaaW.PrintLast Go.Proofs.YtnfgncapmkpcjaaW.PrintMore
theorem or_rdt (s : List Bool) (i : Nat) : rdOf false s (i : Int) = true ↔ s[i]? = some true := by
  unfold rdOf
  rw [Int.toNat_natCast, List.getD_eq_getElem?_getD]
  cases s[i]? with
  | none => simp
  | some b => simp
def or_E (l : List S41) (i j : Nat) : Prop := i < l.length ∧ ∃ u ∈ (rd_T41 l (i : Int)).f1, os_find l u = (j : Int)
def or_s0 (l : List S41) (name : ByteArray) (i : Nat) : Prop := os_find l name = (i : Int)
def or_add (l : List S41) : List Bool → List ByteArray → List Bool
  | s, [] => s
  | s, u :: us => or_add l (if os_find l u ≥ 0 then s.set (os_find l u).toNat true else s) us
theorem or_add_len (l : List S41) : ∀ (us : List ByteArray) (s : List Bool), (or_add l s us).length = s.length
  | [], s => rfl
  | u :: us, s => by
    rw [or_add, or_add_len l us]
    split
    · rw [List.length_set]
    · rfl
theorem or_set (s : List Bool) (j i : Nat) (h : s[i]? = some true) : (s.set j true)[i]? = some true := by
  rw [List.getElem?_set]
  by_cases e : j = i
  · subst e
    have := (List.getElem?_eq_some_iff.1 h).1
    rw [if_pos rfl, if_pos this]
  · rw [if_neg e]; exact h
theorem or_add_keep (l : List S41) : ∀ (us : List ByteArray) (s : List Bool) (i : Nat), s[i]? = some true → (or_add l s us)[i]? = some true
  | [], s, i, h => h
  | u :: us, s, i, h => by
    rw [or_add]
    refine or_add_keep l us _ i ?_
    split
    · exact or_set s _ i h
    · exact h
theorem or_add_has (l : List S41) : ∀ (us : List ByteArray) (s : List Bool) (u : ByteArray) (j : Nat), u ∈ us → os_find l u = (j : Int) → j < s.length → (or_add l s us)[j]? = some true
  | [], s, u, j, h, _, _ => by cases h
  | v :: us, s, u, j, h, hf, hj => by
    rw [or_add]
    rcases List.mem_cons.1 h with h | h
    · subst h
      refine or_add_keep l us _ j ?_
      rw [if_pos (by omega), hf, Int.toNat_natCast, List.getElem?_set, if_pos rfl, if_pos hj]
    · exact or_add_has l us _ u j h hf (by split <;> simp [hj])
theorem or_add_in (l : List S41) (T : Nat → Prop) : ∀ (us : List ByteArray) (s : List Bool), (∀ i, s[i]? = some true → T i) → (∀ u ∈ us, ∀ j : Nat, os_find l u = (j : Int) → T j) → ∀ i, (or_add l s us)[i]? = some true → T i
  | [], s, h, _, i, hi => h i hi
  | u :: us, s, h, hu, i, hi => by
    rw [or_add] at hi
    refine or_add_in l T us _ (fun m hm => ?_) (fun v hv => hu v (List.mem_cons_of_mem _ hv)) i hi
    by_cases e : os_find l u ≥ 0
    · rw [if_pos e, List.getElem?_set] at hm
      by_cases e2 : (os_find l u).toNat = m
      · exact hu u List.mem_cons_self m (by omega)
      · rw [if_neg e2] at hm; exact h m hm
    · rw [if_neg e] at hm; exact h m hm
def or_item (l : List S41) (s : List Bool) (i : Nat) : List Bool := if rdOf false s (i : Int) = true then or_add l s (rd_T41 l (i : Int)).f1 else s
theorem or_item_len (l : List S41) (s : List Bool) (i : Nat) : (or_item l s i).length = s.length := by unfold or_item; split; exact or_add_len l _ _; rfl
theorem or_item_keep (l : List S41) (s : List Bool) (i m : Nat) (h : s[m]? = some true) : (or_item l s i)[m]? = some true := by unfold or_item; split; exact or_add_keep l _ _ _ h; exact h
def or_from (l : List S41) : Nat → Nat → List Bool → List Bool
  | 0, _, s => s
  | d + 1, i, s => or_from l d (i + 1) (or_item l s i)
theorem or_from_len (l : List S41) : ∀ (d i : Nat) (s : List Bool), (or_from l d i s).length = s.length
  | 0, _, _ => rfl
  | d + 1, i, s => by rw [or_from, or_from_len l d, or_item_len]
theorem or_from_keep (l : List S41) : ∀ (d i : Nat) (s : List Bool) (m : Nat), s[m]? = some true → (or_from l d i s)[m]? = some true
  | 0, _, _, _, h => h
  | d + 1, i, s, m, h => by rw [or_from]; exact or_from_keep l d _ _ m (or_item_keep l s i m h)
theorem or_from_has (l : List S41) : ∀ (d i : Nat) (s : List Bool), s.length = l.length → ∀ a b : Nat, i ≤ a → a < i + d → s[a]? = some true → or_E l a b → (or_from l d i s)[b]? = some true
  | 0, i, s, _, a, b, h1, h2, _, _ => by omega
  | d + 1, i, s, hl, a, b, h1, h2, h3, h4 => by
    rw [or_from]
    by_cases e : a = i
    · subst e
      refine or_from_keep l d _ _ b ?_
      obtain ⟨_, u, hu, hf⟩ := h4
      unfold or_item
      rw [if_pos ((or_rdt s a).mpr h3)]
      exact or_add_has l _ s u b hu hf (by have := od_find_lt l u; omega)
    · exact or_from_has l d (i + 1) _ (by rw [or_item_len]; exact hl) a b (by omega) (by omega) (or_item_keep l s i a h3) h4
theorem or_from_in (l : List S41) (T : Nat → Prop) (hT : ∀ i j, T i → or_E l i j → T j) : ∀ (d i : Nat) (s : List Bool), i + d ≤ l.length → (∀ m, s[m]? = some true → T m) → ∀ m, (or_from l d i s)[m]? = some true → T m
  | 0, _, _, _, h, m, hm => h m hm
  | d + 1, i, s, hi, h, m, hm => by
    rw [or_from] at hm
    refine or_from_in l T hT d (i + 1) _ (by omega) (fun b hb => ?_) m hm
    unfold or_item at hb
    by_cases e : rdOf false s (i : Int) = true
    · rw [if_pos e] at hb
      exact or_add_in l T _ s h (fun u hu j hj => hT i j (h i ((or_rdt s i).mp e)) ⟨by omega, u, hu, hj⟩) b hb
    · rw [if_neg e] at hb; exact h b hb
def or_round (l : List S41) (s : List Bool) : List Bool := or_from l l.length 0 s
def or_start (l : List S41) (name : ByteArray) : List Bool := if os_find l name ≥ 0 then (List.replicate l.length false).set (os_find l name).toNat true else List.replicate l.length false
theorem or_start_len (l : List S41) (name : ByteArray) : (or_start l name).length = l.length := by unfold or_start; split <;> simp
theorem or_start_has (l : List S41) (name : ByteArray) (i : Nat) : (or_start l name)[i]? = some true ↔ or_s0 l name i := by
  unfold or_start or_s0
  have h1 := od_find_lt l name
  by_cases e : os_find l name ≥ 0
  · rw [if_pos e, List.getElem?_set]
    by_cases e2 : (os_find l name).toNat = i
    · rw [if_pos e2, if_pos (by rw [List.length_replicate]; omega)]; simp; omega
    · rw [if_neg e2, List.getElem?_replicate]
      constructor
      · intro h; split at h <;> simp at h
      · intro h; omega
  · rw [if_neg e, List.getElem?_replicate]
    constructor
    · intro h; split at h <;> simp at h
    · intro h; omega
/-- What the rounds come to. -/
def or_all (l : List S41) (name : ByteArray) : List Bool := rc_iter (or_round l) l.length (or_start l name)
theorem or_all_len (l : List S41) (name : ByteArray) : (or_all l name).length = l.length := by
  unfold or_all
  rw [rc_iter_len (or_round l) (fun s => or_from_len l l.length 0 s), or_start_len]
theorem or_least (l : List S41) (name : ByteArray) : Least (or_E l) (or_s0 l name) (fun i => (or_all l name)[i]? = some true) := by
  have hfix : or_round l (or_all l name) = or_all l name := rc_fix (or_round l) (fun s => or_from_len l l.length 0 s) (fun s i h => or_from_keep l l.length 0 s i h) l.length (or_start l name) (by
    have := rc_count_le (or_start l name)
    rw [or_start_len] at this
    exact this)
  refine ⟨fun i hi => ?_, fun i j hi hE => ?_, fun T h0 hT i hi => ?_⟩
  · exact rc_iter_keep (or_round l) (fun s i h => or_from_keep l l.length 0 s i h) l.length _ i ((or_start_has l name i).mpr hi)
  · show (or_all l name)[j]? = some true
    rw [← hfix]
    exact or_from_has l l.length 0 _ (or_all_len l name) i j (by omega) (by have := hE.1; omega) hi hE
  · have := rc_iter_in (or_round l) (fun s => ∀ m, s[m]? = some true → T m) (fun s hs => or_from_in l T hT l.length 0 s (by omega) hs) l.length (or_start l name) (fun m hm => h0 m ((or_start_has l name m).mp hm))
    exact this i hi
/-- The places that are told, from i on. -/
def or_out (l : List S41) (name : ByteArray) (s : List Bool) : Nat → Nat → List Int
  | 0, _ => []
  | d + 1, i => (if rdOf false s (i : Int) = true then (if (rd_T41 l (i : Int)).f0.toList = name.toList then [] else [(i : Int)]) else []) ++ or_out l name s d (i + 1)
theorem or_out_len (l : List S41) (name : ByteArray) (s : List Bool) : ∀ d i, (or_out l name s d i).length ≤ d
  | 0, _ => Nat.le_refl _
  | d + 1, i => by
    rw [or_out, List.length_append]
    have := or_out_len l name s d (i + 1)
    split
    · split <;> simp <;> omega
    · simp; omega
theorem or_r3 (l : List S41) (hl : l.length ≤ 1000) (name : ByteArray) (s : List Bool) (hs : s.length = l.length) (d : Nat) : ∀ (k i : Nat) (acc : List Int), i + d = l.length → d < k → acc.length ≤ i → pascalineref25_Reach.l3 k (l.map od_toR) name s acc (i : Int) = some (acc ++ or_out l name s d i) := by
  induction d with
  | zero =>
    intro k i acc hi hk ha
    obtain ⟨k, rfl⟩ : ∃ m, k = m + 1 := ⟨k - 1, by omega⟩
    simp only [pascalineref25_Reach.l3]
    rw [if_neg (by rw [List.length_map]; omega), or_out, List.append_nil]
  | succ d ih =>
    intro k i acc hi hk ha
    obtain ⟨k, rfl⟩ : ∃ m, k = m + 1 := ⟨k - 1, by omega⟩
    simp only [pascalineref25_Reach.l3]
    rw [if_pos (by rw [List.length_map]; omega), if_pos (by omega), if_pos (by omega), od_rdR, show (od_toR (rd_T41 l (i : Int))).f0 = (rd_T41 l (i : Int)).f0 from rfl, od_wrap (by omega) (by omega), or_out]
    by_cases e : rdOf false s (i : Int) = true
    · rw [if_pos e, if_pos e]
      by_cases e2 : (rd_T41 l (i : Int)).f0.toList = name.toList
      · rw [if_pos e2, if_pos e2, List.nil_append]
        exact ih k (i + 1) acc (by omega) (by omega) (by omega)
      · rw [if_neg e2, if_neg e2, if_pos (by omega), ← List.append_assoc]
        exact ih k (i + 1) _ (by omega) (by omega) (by simp; omega)
    · rw [if_neg e, if_neg e, List.nil_append]
      exact ih k (i + 1) acc (by omega) (by omega) (by omega)
theorem or_p1 (l : List S41) (hl : l.length ≤ 1000) (name : ByteArray) (s : List Bool) (hs : s.length = l.length) (d : Nat) : ∀ (k i : Nat) (acc : List Int), i + d = l.length → d < k → acc.length ≤ i → order_Reach.l1 k l name acc s (s.length : Int) (i : Int) = some (acc ++ or_out l name s d i) := by
  induction d with
  | zero =>
    intro k i acc hi hk ha
    obtain ⟨k, rfl⟩ : ∃ m, k = m + 1 := ⟨k - 1, by omega⟩
    simp only [order_Reach.l1]
    rw [if_neg (by omega), or_out, List.append_nil]
  | succ d ih =>
    intro k i acc hi hk ha
    obtain ⟨k, rfl⟩ : ∃ m, k = m + 1 := ⟨k - 1, by omega⟩
    simp only [order_Reach.l1]
    rw [if_pos (by omega), if_pos (by omega), if_pos (by omega), od_wrap (by omega) (by omega), or_out]
    by_cases e : rdOf false s (i : Int) = true
    · rw [if_pos e, if_pos e, if_pos (by omega)]
      by_cases e2 : (rd_T41 l (i : Int)).f0.toList = name.toList
      · rw [if_pos e2, if_pos e2, List.nil_append]
        exact ih k (i + 1) acc (by omega) (by omega) (by omega)
      · rw [if_neg e2, if_neg e2, if_pos (by omega), ← List.append_assoc]
        exact ih k (i + 1) _ (by omega) (by omega) (by simp; omega)
    · rw [if_neg e, if_neg e, List.nil_append]
      exact ih k (i + 1) acc (by omega) (by omega) (by omega)
set_option maxRecDepth 100000 in
theorem or_r2 (l : List S41) (hl : l.length ≤ 1000) (name : ByteArray) (rnd : Int) (i : Nat) (hi : i < l.length) (hu : (rd_T41 l (i : Int)).f1.length ≤ 1000) (S : List Bool) (R : Option (List Int)) (K : Nat)
    (hnext : ∀ k, K ≤ k → pascalineref25_Reach.l1 k (l.map od_toR) name S rnd ((i + 1 : Nat) : Int) = R) (d : Nat) : ∀ (k j : Nat) (s : List Bool), j + d = (rd_T41 l (i : Int)).f1.length → K + 1100 + 2 * d < k → s.length = l.length → rdOf false s (i : Int) = true → or_add l s ((rd_T41 l (i : Int)).f1.drop j) = S →
    pascalineref25_Reach.l2 k (l.map od_toR) name s rnd (i : Int) (j : Int) = R := by
  induction d with
  | zero =>
    intro k j s hj hk hs ht hS
    obtain ⟨k, rfl⟩ : ∃ m, k = m + 2 := ⟨k - 2, by omega⟩
    rw [List.drop_eq_nil_of_le (by omega), or_add] at hS
    subst hS
    simp only [pascalineref25_Reach.l2]
    rw [if_pos (by omega), if_pos (by omega), if_pos ht, if_pos (by rw [List.length_map]; omega), od_rdR, decide_eq_false (show ¬ (j : Int) < ((od_toR (rd_T41 l (i : Int))).f1.length : Int) by show ¬ (j : Int) < ((rd_T41 l (i : Int)).f1.length : Int); omega)]
    simp only [pascalineref25_Reach.j4, Bool.false_eq_true, if_false]
    rw [od_wrap (by omega) (by omega)]
    exact hnext k (by omega)
  | succ d ih =>
    intro k j s hj hk hs ht hS
    obtain ⟨k, rfl⟩ : ∃ m, k = m + 2 := ⟨k - 2, by omega⟩
    have hlt : j < (rd_T41 l (i : Int)).f1.length := by omega
    rw [List.drop_eq_getElem_cons hlt, or_add] at hS
    simp only [pascalineref25_Reach.l2]
    rw [if_pos (by omega), if_pos (by omega), if_pos ht, if_pos (by rw [List.length_map]; omega), od_rdR, decide_eq_true (show (j : Int) < ((od_toR (rd_T41 l (i : Int))).f1.length : Int) by show (j : Int) < ((rd_T41 l (i : Int)).f1.length : Int); omega)]
    simp only [pascalineref25_Reach.j4, if_true]
    rw [if_pos (by omega), if_pos (by rw [List.length_map]; omega), if_pos (by omega), od_rdR, if_pos (show (j : Int) < ((od_toR (rd_T41 l (i : Int))).f1.length : Int) by show (j : Int) < ((rd_T41 l (i : Int)).f1.length : Int); omega)]
    rw [show (od_toR (rd_T41 l (i : Int))).f1 = (rd_T41 l (i : Int)).f1 from rfl, od_rds _ _ hlt, od_Find l _ hl k (by omega), Option.bind_some, od_wrap (by omega) (by omega)]
    by_cases e : os_find l (rd_T41 l (i : Int)).f1[j] ≥ 0
    · have hf := od_find_lt l (rd_T41 l (i : Int)).f1[j]
      rw [if_pos e] at hS
      rw [if_pos e, if_pos e, if_pos (by omega)]
      refine ih k (j + 1) _ (by omega) (by omega) (by rw [List.length_set]; exact hs) ?_ hS
      exact (or_rdt _ i).mpr (or_set s _ i ((or_rdt s i).mp ht))
    · rw [if_neg e] at hS ⊢
      exact ih k (j + 1) s (by omega) (by omega) hs ht hS
set_option maxRecDepth 100000 in
theorem or_r1 (l : List S41) (hl : l.length ≤ 1000) (hu : ∀ i : Nat, i < l.length → (rd_T41 l (i : Int)).f1.length ≤ 1000) (name : ByteArray) (rnd : Int) (S : List Bool) (R : Option (List Int)) (K : Nat)
    (hnext : ∀ k, K ≤ k → pascalineref25_Reach.l0 k (l.map od_toR) name S (wrap64 (rnd + 1)) = R) (d : Nat) : ∀ (k i : Nat) (s : List Bool), i + d = l.length → K + 4000 * (d + 1) < k → s.length = l.length → or_from l d i s = S →
    pascalineref25_Reach.l1 k (l.map od_toR) name s rnd (i : Int) = R := by
  induction d with
  | zero =>
    intro k i s hi hk hs hS
    obtain ⟨k, rfl⟩ : ∃ m, k = m + 1 := ⟨k - 1, by omega⟩
    rw [or_from] at hS
    subst hS
    simp only [pascalineref25_Reach.l1]
    rw [if_neg (by rw [List.length_map]; omega)]
    exact hnext k (by omega)
  | succ d ih =>
    intro k i s hi hk hs hS
    obtain ⟨k, rfl⟩ : ∃ m, k = m + 1 := ⟨k - 1, by omega⟩
    rw [or_from] at hS
    simp only [pascalineref25_Reach.l1]
    rw [if_pos (by rw [List.length_map]; omega)]
    have hui := hu i (by omega)
    by_cases e : rdOf false s (i : Int) = true
    · refine or_r2 l hl name rnd i (by omega) hui (or_item l s i) R (K + 4000 * (d + 1) + 1) (fun k' hk' => ih k' (i + 1) _ (by omega) (by omega) (by rw [or_item_len]; exact hs) hS) (rd_T41 l (i : Int)).f1.length k 0 s (by omega) (by omega) hs e ?_
      unfold or_item
      rw [if_pos e, List.drop_zero]
    · obtain ⟨k, rfl⟩ : ∃ m, k = m + 2 := ⟨k - 2, by omega⟩
      simp only [pascalineref25_Reach.l2]
      rw [if_pos (by omega), if_pos (by omega), if_neg e]
      simp only [pascalineref25_Reach.j4, Bool.false_eq_true, if_false]
      rw [od_wrap (by omega) (by omega)]
      unfold or_item at hS
      rw [if_neg e] at hS
      exact ih k (i + 1) s (by omega) (by omega) hs hS
set_option maxRecDepth 100000 in
theorem or_r0 (l : List S41) (hl : l.length ≤ 100) (hu : ∀ i : Nat, i < l.length → (rd_T41 l (i : Int)).f1.length ≤ 1000) (name : ByteArray) (d : Nat) : ∀ (k r : Nat) (s : List Bool), r + d = l.length → 500000 * (d + 1) < k → s.length = l.length →
    pascalineref25_Reach.l0 k (l.map od_toR) name s (r : Int) = some (or_out l name (rc_iter (or_round l) d s) l.length 0) := by
  induction d with
  | zero =>
    intro k r s hr hk hs
    obtain ⟨k, rfl⟩ : ∃ m, k = m + 1 := ⟨k - 1, by omega⟩
    simp only [pascalineref25_Reach.l0]
    rw [if_neg (by rw [List.length_map]; omega), rc_iter]
    exact or_r3 l (by omega) name s hs l.length k 0 [] (by omega) (by omega) (by simp)
  | succ d ih =>
    intro k r s hr hk hs
    obtain ⟨k, rfl⟩ : ∃ m, k = m + 1 := ⟨k - 1, by omega⟩
    simp only [pascalineref25_Reach.l0]
    rw [if_pos (by rw [List.length_map]; omega), rc_iter]
    refine or_r1 l (by omega) hu name (r : Int) (or_round l s) _ (500000 * (d + 1) + 1) (fun k' hk' => ?_) l.length k 0 s (by omega) (by omega) hs rfl
    rw [od_wrap (by omega) (by omega)]
    exact ih k' (r + 1) _ (by omega) (by omega) (by unfold or_round; rw [or_from_len]; exact hs)
set_option maxRecDepth 100000 in
theorem or_refReach (l : List S41) (hl : l.length ≤ 100) (hu : ∀ i : Nat, i < l.length → (rd_T41 l (i : Int)).f1.length ≤ 1000) (name : ByteArray) (k : Nat) (hk : 100000000 < k) : pascalineref25_Reach.f k (l.map od_toR) name = some (or_out l name (or_all l name) l.length 0) := by
  have hr := fun k' (hk' : 90000000 < k') => or_r0 l hl hu name l.length k' 0 (or_start l name) (by omega) (by omega) (or_start_len l name)
  unfold pascalineref25_Reach.f
  rw [od_Find l name (by omega) k (by omega), Option.bind_some, List.length_map, if_pos (by omega), if_pos (by omega), Int.toNat_natCast, Option.bind_some]
  have hf := od_find_lt l name
  obtain ⟨k, rfl⟩ : ∃ m, k = m + 1 := ⟨k - 1, by omega⟩
  unfold or_start at hr
  by_cases e : os_find l name ≥ 0
  · rw [if_pos e] at hr
    rw [if_pos e, if_pos e, if_pos (by rw [List.length_replicate]; omega)]
    simp only [pascalineref25_Reach.j0]
    have := hr k (by omega)
    unfold or_all or_start
    rw [if_pos e]
    exact this
  · rw [if_neg e] at hr
    rw [if_neg e]
    simp only [pascalineref25_Reach.j0]
    have := hr k (by omega)
    unfold or_all or_start
    rw [if_neg e]
    exact this
/-- Where the program's walk stands. -/
structure OrInv (l : List S41) (name : ByteArray) (s : List Bool) (op : List ByteArray) : Prop where
  len : s.length = l.length
  start : name ∈ op ∨ os_find l name < 0 ∨ ∃ j : Nat, os_find l name = (j : Int) ∧ s[j]? = some true
  closed : ∀ i : Nat, s[i]? = some true → ∀ u ∈ (rd_T41 l (i : Int)).f1, u ∈ op ∨ os_find l u < 0 ∨ ∃ j : Nat, os_find l u = (j : Int) ∧ s[j]? = some true
  least : ∀ T : Nat → Prop, (∀ i, or_s0 l name i → T i) → (∀ i j, T i → or_E l i j → T j) → (∀ i : Nat, s[i]? = some true → T i) ∧ ∀ u ∈ op, ∀ j : Nat, os_find l u = (j : Int) → T j
theorem or_inv_least (l : List S41) (name : ByteArray) (s : List Bool) (h : OrInv l name s []) : Least (or_E l) (or_s0 l name) (fun i => s[i]? = some true) := by
  refine ⟨fun i hi => ?_, fun i j hi hE => ?_, fun T h0 hT i hi => (h.least T h0 hT).1 i hi⟩
  · rcases h.start with h1 | h1 | ⟨j, h1, h2⟩
    · cases h1
    · unfold or_s0 at hi; omega
    · unfold or_s0 at hi
      obtain rfl : j = i := by omega
      exact h2
  · obtain ⟨_, u, hu, hf⟩ := hE
    rcases h.closed i hi u hu with h1 | h1 | ⟨m, h1, h2⟩
    · cases h1
    · omega
    · obtain rfl : m = j := by omega
      exact h2
theorem or_all_of (l : List S41) (name : ByteArray) (s : List Bool) (h : OrInv l name s []) : s = or_all l name :=
  rc_ext (by rw [h.len, or_all_len]) (fun i => Least.one (or_inv_least l name s h) (or_least l name) i)
theorem or_split (op : List ByteArray) (h : 0 < op.length) : op = op.take (op.length - 1) ++ [rdOf ByteArray.empty op ((op.length : Int) - 1)] := by
  have e : rdOf ByteArray.empty op ((op.length : Int) - 1) = op[op.length - 1] := by
    unfold rdOf
    rw [show ((op.length : Int) - 1).toNat = op.length - 1 by omega]
    simp [List.getD_eq_getElem?_getD, show op.length - 1 < op.length by omega]
  rw [e]
  conv => lhs; rw [← List.take_append_drop (op.length - 1) op]
  congr 1
  rw [List.drop_eq_getElem_cons (by omega), List.drop_eq_nil_of_le (by omega)]
theorem or_p0 (l : List S41) (hl : l.length ≤ 100) (hu : ∀ i : Nat, i < l.length → (rd_T41 l (i : Int)).f1.length ≤ 20) (name : ByteArray) (d : Nat) (hd9 : d ≤ 100000) : ∀ (k : Nat) (s : List Bool) (op : List ByteArray), OrInv l name s op → 21 * s.count false + op.length ≤ d → d + 1000 < k →
    order_Reach.l0 k l name s op = some (or_out l name (or_all l name) l.length 0) := by
  induction d with
  | zero =>
    intro k s op hI hd hk
    obtain ⟨k, rfl⟩ : ∃ m, k = m + 1 := ⟨k - 1, by omega⟩
    obtain rfl : op = [] := List.eq_nil_of_length_eq_zero (by omega)
    have hs := hI.len
    simp only [order_Reach.l0]
    rw [if_neg (by simp)]
    have := or_p1 l (by omega) name s hs l.length k 0 [] (by omega) (by omega) (by simp)
    rw [← or_all_of l name s hI]
    exact this
  | succ d ih =>
    intro k s op hI hd hk
    replace ih := ih (by omega)
    obtain ⟨k, rfl⟩ : ∃ m, k = m + 1 := ⟨k - 1, by omega⟩
    have hs := hI.len
    by_cases h0 : op.length = 0
    · obtain rfl : op = [] := List.eq_nil_of_length_eq_zero h0
      simp only [order_Reach.l0]
      rw [if_neg (by simp)]
      have := or_p1 l (by omega) name s hs l.length k 0 [] (by omega) (by omega) (by simp)
      rw [← or_all_of l name s hI]
      exact this
    · have hsp := or_split op (by omega)
      have hyl : (op.take (op.length - 1)).length = op.length - 1 := by rw [List.length_take]; omega
      simp only [order_Reach.l0]
      rw [if_pos (by omega), od_wrapd (by omega) (by omega), if_pos (by omega), if_pos (by omega), if_pos (by omega), show ((op.length : Int) - 1).toNat = op.length - 1 by omega, Option.bind_some, od_pfind l _ (by omega), Option.bind_some]
      generalize hu0 : rdOf ByteArray.empty op ((op.length : Int) - 1) = u at hsp
      generalize hy : op.take (op.length - 1) = y at hsp hyl
      have hf := od_find_lt l u
      have hmem : ∀ v, v ∈ op → v ∈ y ∨ v = u := fun v hv => by rw [hsp] at hv; simpa using hv
      have hsub : ∀ v, v ∈ y → v ∈ op := fun v hv => by rw [hsp]; exact List.mem_append_left _ hv
      have huo : u ∈ op := by rw [hsp]; simp
      -- popping a name that is nowhere, or that is seen
      have pop : (os_find l u < 0 ∨ ∃ j : Nat, os_find l u = (j : Int) ∧ s[j]? = some true) → OrInv l name s y := by
        intro hc
        refine ⟨hs, ?_, fun i hi v hv => ?_, fun T h1 h2 => ⟨((hI.least T h1 h2).1), fun v hv => (hI.least T h1 h2).2 v (hsub v hv)⟩⟩
        · rcases hI.start with h | h | h
          · rcases hmem _ h with h | h
            · exact .inl h
            · rw [h]; exact .inr hc
          · exact .inr (.inl h)
          · exact .inr (.inr h)
        · rcases hI.closed i hi v hv with h | h | h
          · rcases hmem _ h with h | h
            · exact .inl h
            · rw [h]; exact .inr hc
          · exact .inr (.inl h)
          · exact .inr (.inr h)
      by_cases e : os_find l u < 0
      · rw [if_pos e]
        exact ih k s y (pop (.inl e)) (by omega) (by omega)
      · rw [if_neg e, if_pos (by omega), if_pos (by omega)]
        obtain ⟨m, hm⟩ : ∃ m : Nat, os_find l u = (m : Int) := ⟨(os_find l u).toNat, by omega⟩
        rw [hm]
        by_cases e2 : rdOf false s (m : Int) = true
        · rw [if_pos e2]
          exact ih k s y (pop (.inr ⟨m, hm, (or_rdt s m).mp e2⟩)) (by omega) (by omega)
        · have hum := hu m (by omega)
          rw [if_neg e2, if_pos (by omega), if_pos (by omega), Int.toNat_natCast]
          have hsm : s[m]'(by omega) = false := by
            rw [od_rdD s m (by omega)] at e2
            simpa using e2
          have hcnt : (s.set m true).count false = s.count false - 1 := by
            rw [List.count_set (by omega), hsm]; simp
          have hpos : 0 < s.count false := List.count_pos_iff.mpr (by rw [← hsm]; exact List.getElem_mem _)
          refine ih k _ _ ⟨by rw [List.length_set]; exact hs, ?_, fun i hi v hv => ?_, fun T h1 h2 => ?_⟩ (by rw [List.length_append]; omega) (by omega)
          · rcases hI.start with h | h | ⟨j, h, h'⟩
            · rcases hmem _ h with h | h
              · exact .inl (List.mem_append_left _ h)
              · rw [h]; exact .inr (.inr ⟨m, hm, by rw [List.getElem?_set, if_pos rfl, if_pos (by omega)]⟩)
            · exact .inr (.inl h)
            · exact .inr (.inr ⟨j, h, or_set s m j h'⟩)
          · by_cases him : i = m
            · subst him; exact .inl (List.mem_append_right _ hv)
            · rw [List.getElem?_set, if_neg (fun x => him x.symm)] at hi
              rcases hI.closed i hi v hv with h | h | ⟨j, h, h'⟩
              · rcases hmem _ h with h | h
                · exact .inl (List.mem_append_left _ h)
                · rw [h]; exact .inr (.inr ⟨m, hm, by rw [List.getElem?_set, if_pos rfl, if_pos (by omega)]⟩)
              · exact .inr (.inl h)
              · exact .inr (.inr ⟨j, h, or_set s m j h'⟩)
          · obtain ⟨h3, h4⟩ := hI.least T h1 h2
            have hTm : T m := h4 u huo m hm
            refine ⟨fun i hi => ?_, fun v hv j hj => ?_⟩
            · rw [List.getElem?_set] at hi
              by_cases him : m = i
              · subst him; exact hTm
              · rw [if_neg him] at hi; exact h3 i hi
            · rcases List.mem_append.1 hv with hv | hv
              · exact h4 v (hsub v hv) j hj
              · exact h2 m j hTm ⟨by omega, v, hv, hj⟩
theorem or_Reach (l : List S41) (hl : l.length ≤ 100) (hu : ∀ i : Nat, i < l.length → (rd_T41 l (i : Int)).f1.length ≤ 20) (name : ByteArray) (k : Nat) (hk : 10000 < k) : order_Reach.f k l name = some (or_out l name (or_all l name) l.length 0) := by
  unfold order_Reach.f
  rw [if_pos (by omega), if_pos (by omega), Int.toNat_natCast]
  have hno : ∀ i : Nat, ¬ (List.replicate l.length false)[i]? = some true := by
    intro i h
    rw [List.getElem?_replicate] at h
    split at h <;> simp at h
  refine or_p0 l hl hu name (21 * l.length + 1) (by omega) k _ _ ⟨List.length_replicate, .inl List.mem_cons_self, fun i hi => absurd hi (hno i), fun T h1 h2 => ⟨fun i hi => absurd hi (hno i), fun v hv j hj => ?_⟩⟩ ?_ (by omega)
  · rw [List.mem_singleton] at hv
    subst hv
    exact h1 j hj
  · have := rc_count_le (List.replicate l.length false)
    rw [List.length_replicate] at this
    simp only [List.length_singleton]
    omega
end Go.Proofs.Ytnfgncapmkpcjaa.Q

/- To which words one comes: the program's walk over open words and the reference's rounds come to one set. -/
import Derived.Test.YtfagpgpeiomnpaaPx32
import Derived.Test.YtfagpgpeiomnpaaPx36
import Derived.Test.YtfagpgpeiomnpaaPx38
import Derived.Test.YtfagpgpeiomnpaaPx39
import Derived.Test.YtfagpgpeiomnpaaPx40
import Derived.Test.YtfagpgpeiomnpaaQDec
import Derived.Test.YtfagpgpeiomnpaaCReach
namespace Go.Proofs.Ytfagpgpeiomnpaa.Q
set_option linter.unusedSimpArgs false
set_option linter.unusedVariables false
open Go Go.RowKit Go.Proofs.Ytfagpgpeiomnpaa.P Go.Proofs.Ytfagpgpeiomnpaa.C Go.Proofs.YtfagpgpeiomnpaaW.PrintWords Go.Proofs.YtfagpgpeiomnpaaW.PrintLast Go.Proofs.YtfagpgpeiomnpaaW.PrintMore
theorem lq_wrap {i : Int} (h0 : -1000 ≤ i) (h : i ≤ 1000000) : wrap64 (i + 1) = i + 1 := by unfold wrap64; omega
theorem lq_rdt (s : List Bool) (i : Nat) : rdOf false s (i : Int) = true ↔ s[i]? = some true := by
  unfold rdOf
  rw [Int.toNat_natCast, List.getD_eq_getElem?_getD]
  cases s[i]? with
  | none => simp
  | some b => simp
theorem lq_rdD (D : List Bool) (j : Nat) (h : j < D.length) : rdOf false D (j : Int) = D[j] := by
  unfold rdOf; rw [Int.toNat_natCast]; simp [List.getD_eq_getElem?_getD, h]
theorem lq_rd (xs : List Int) (i : Nat) (h : i < xs.length) : rd xs (i : Int) = xs[i] := by
  unfold rd; rw [Int.toNat_natCast]; simp [List.getD_eq_getElem?_getD, h]
def lq_falls (op : Int) : Bool := !(op == 1 || op == 22 || op == 24 || op == 28 || op == 29)
def lq_leads (op : Int) : Bool := decide (20 ≤ op ∧ op ≤ 23)
/-- The words to which one comes from one. -/
def lq_ns (l : List Int) (x : Int) : List Int :=
  if (decOf (rd l x)).2.2.2.2.2 = 0 then (if lq_falls (decOf (rd l x)).1 = true then [x + 1] else []) ++ (if lq_leads (decOf (rd l x)).1 = true then [wrap64 (x + 1 + (decOf (rd l x)).2.2.2.2.1)] else []) else []
theorem lq_ns_len (l : List Int) (x : Int) : (lq_ns l x).length ≤ 2 := by
  unfold lq_ns
  split
  · rw [List.length_append]
    split <;> split <;> simp
  · simp
theorem lq_fallsf (op a b c i : Int) : listing_falls.f op a b c i = some (lq_falls op) := by
  unfold listing_falls.f lq_falls
  by_cases h1 : op = 1
  · subst h1; rfl
  by_cases h2 : op = 22
  · subst h2; rfl
  by_cases h3 : op = 24
  · subst h3; rfl
  by_cases h4 : op = 28
  · subst h4; rfl
  by_cases h5 : op = 29
  · subst h5; rfl
  simp [h1, h2, h3, h4, h5]
/-- Words are words. -/
def LqW (l : List Int) : Prop := ∀ i : Nat, i < l.length → 0 ≤ rd l (i : Int) ∧ rd l (i : Int) ≤ 4294967295
theorem lq_next (l : List Int) (hW : LqW l) (i : Nat) (hi : i < l.length) (k : Nat) (hk : 60 ≤ k) : lr_next k l (i : Int) = some (lq_ns l (i : Int)) := by
  unfold lr_next lq_ns
  have hw := hW i hi
  have h64 := (dec_i64 _ hw).2.2.2.2
  rw [dec_eq k hk _ hw, Option.bind_some]
  by_cases h : (decOf (rd l (i : Int))).2.2.2.2.2 = 0
  · rw [if_pos h, if_pos h, lq_fallsf, Option.bind_some, target_eq 0 _ _ _ _ _ h64, Option.bind_some]
    unfold lq_leads
    by_cases h2 : 20 ≤ (decOf (rd l (i : Int))).1 ∧ (decOf (rd l (i : Int))).1 ≤ 23
    · rw [if_pos h2, decide_eq_true h2]
    · rw [if_neg h2, decide_eq_false h2]
  · rw [if_neg h, if_neg h]
theorem lq_leadsf (op : Int) : pascalineref06_leads.f op = some (lq_leads op) := by
  unfold pascalineref06_leads.f lq_leads
  by_cases h : op ≥ 20
  · rw [if_pos h]
    congr 1
    by_cases h2 : op ≤ 23
    · rw [decide_eq_true h2, decide_eq_true ⟨h, h2⟩]
    · rw [decide_eq_false h2, decide_eq_false (fun e => h2 e.2)]
  · rw [if_neg h, decide_eq_false (fun e => h e.1)]
theorem lq_rj (l : List Int) (i : Nat) (hi : i < 1000000) (b : Bool) (op a b1 c im : Int) (k : Nat) : pascalineref06_next.j0 (k + 1) (i : Int) [] b op a b1 c im = some ((if b = true then [(i : Int) + 1] else []) ++ (if lq_leads op = true then [wrap64 ((i : Int) + 1 + im)] else [])) := by
  simp only [pascalineref06_next.j0]
  rw [lq_leadsf, lq_wrap (by omega) (by omega)]
  cases b <;> cases lq_leads op <;> simp
theorem lq_rnext (l : List Int) (hW : LqW l) (hl : l.length ≤ 1000) (i : Nat) (hi : i < l.length) (k : Nat) (hk : 61 ≤ k) : pascalineref06_next.f k l (i : Int) = some (lq_ns l (i : Int)) := by
  obtain ⟨k, rfl⟩ : ∃ m, k = m + 1 := ⟨k - 1, by omega⟩
  unfold pascalineref06_next.f lq_ns
  have hw := hW i hi
  rw [if_pos (by omega), if_pos (by omega), rdec_eq (k + 1) (by omega) _ hw, Option.bind_some]
  by_cases h : (decOf (rd l (i : Int))).2.2.2.2.2 = 0
  · rw [if_pos h, if_pos h]
    generalize (decOf (rd l (i : Int))).1 = op
    simp only [lq_rj l i (by omega)]
    unfold lq_falls
    by_cases h1 : op = 1
    · subst h1; rfl
    by_cases h2 : op = 22
    · subst h2; rfl
    by_cases h3 : op = 24
    · subst h3; rfl
    by_cases h4 : op = 28
    · subst h4; rfl
    rw [if_neg h1, if_neg h2, if_neg h3, if_neg h4]
    by_cases h5 : op = 29
    · subst h5; rfl
    simp [h1, h2, h3, h4, h5]
  · rw [if_neg h, if_neg h]
def lq_E (l : List Int) (i j : Nat) : Prop := i < l.length ∧ j < l.length ∧ (j : Int) ∈ lq_ns l (i : Int)
def lq_s0 (l fr : List Int) (i : Nat) : Prop := i < l.length ∧ (i : Int) ∈ fr
def lq_add (n : Nat) : List Bool → List Int → List Bool
  | s, [] => s
  | s, x :: xs => lq_add n (if 0 ≤ x ∧ x < (n : Int) then s.set x.toNat true else s) xs
theorem lq_add_len (n : Nat) : ∀ (xs : List Int) (s : List Bool), (lq_add n s xs).length = s.length
  | [], s => rfl
  | x :: xs, s => by
    rw [lq_add, lq_add_len n xs]
    split
    · rw [List.length_set]
    · rfl
theorem lq_set (s : List Bool) (j i : Nat) (h : s[i]? = some true) : (s.set j true)[i]? = some true := by
  rw [List.getElem?_set]
  by_cases e : j = i
  · subst e
    have := (List.getElem?_eq_some_iff.1 h).1
    rw [if_pos rfl, if_pos this]
  · rw [if_neg e]; exact h
theorem lq_add_keep (n : Nat) : ∀ (xs : List Int) (s : List Bool) (i : Nat), s[i]? = some true → (lq_add n s xs)[i]? = some true
  | [], s, i, h => h
  | x :: xs, s, i, h => by
    rw [lq_add]
    refine lq_add_keep n xs _ i ?_
    split
    · exact lq_set s _ i h
    · exact h
theorem lq_add_has (n : Nat) : ∀ (xs : List Int) (s : List Bool) (j : Nat), (j : Int) ∈ xs → j < n → s.length = n → (lq_add n s xs)[j]? = some true
  | [], s, j, h, _, _ => by cases h
  | x :: xs, s, j, h, hj, hs => by
    rw [lq_add]
    rcases List.mem_cons.1 h with h | h
    · subst h
      refine lq_add_keep n xs _ j ?_
      rw [if_pos (by omega), Int.toNat_natCast, List.getElem?_set, if_pos rfl, if_pos (by omega)]
    · exact lq_add_has n xs _ j h hj (by split <;> simp [hs])
theorem lq_add_in (n : Nat) (T : Nat → Prop) : ∀ (xs : List Int) (s : List Bool), (∀ i, s[i]? = some true → T i) → (∀ j : Nat, j < n → (j : Int) ∈ xs → T j) → ∀ i, (lq_add n s xs)[i]? = some true → T i
  | [], s, h, _, i, hi => h i hi
  | x :: xs, s, h, hu, i, hi => by
    rw [lq_add] at hi
    refine lq_add_in n T xs _ (fun m hm => ?_) (fun j hj hm => hu j hj (List.mem_cons_of_mem _ hm)) i hi
    by_cases e : 0 ≤ x ∧ x < (n : Int)
    · rw [if_pos e, List.getElem?_set] at hm
      by_cases e2 : x.toNat = m
      · exact hu m (by omega) (by rw [show (m : Int) = x by omega]; exact List.mem_cons_self)
      · rw [if_neg e2] at hm; exact h m hm
    · rw [if_neg e] at hm; exact h m hm
def lq_item (l : List Int) (s : List Bool) (i : Nat) : List Bool := if rdOf false s (i : Int) = true then lq_add l.length s (lq_ns l (i : Int)) else s
theorem lq_item_len (l : List Int) (s : List Bool) (i : Nat) : (lq_item l s i).length = s.length := by unfold lq_item; split; exact lq_add_len _ _ _; rfl
theorem lq_item_keep (l : List Int) (s : List Bool) (i m : Nat) (h : s[m]? = some true) : (lq_item l s i)[m]? = some true := by unfold lq_item; split; exact lq_add_keep _ _ _ _ h; exact h
def lq_from (l : List Int) : Nat → Nat → List Bool → List Bool
  | 0, _, s => s
  | d + 1, i, s => lq_from l d (i + 1) (lq_item l s i)
theorem lq_from_len (l : List Int) : ∀ (d i : Nat) (s : List Bool), (lq_from l d i s).length = s.length
  | 0, _, _ => rfl
  | d + 1, i, s => by rw [lq_from, lq_from_len l d, lq_item_len]
theorem lq_from_keep (l : List Int) : ∀ (d i : Nat) (s : List Bool) (m : Nat), s[m]? = some true → (lq_from l d i s)[m]? = some true
  | 0, _, _, _, h => h
  | d + 1, i, s, m, h => by rw [lq_from]; exact lq_from_keep l d _ _ m (lq_item_keep l s i m h)
theorem lq_from_has (l : List Int) : ∀ (d i : Nat) (s : List Bool), s.length = l.length → ∀ a b : Nat, i ≤ a → a < i + d → s[a]? = some true → lq_E l a b → (lq_from l d i s)[b]? = some true
  | 0, i, s, _, a, b, h1, h2, _, _ => by omega
  | d + 1, i, s, hl, a, b, h1, h2, h3, h4 => by
    rw [lq_from]
    by_cases e : a = i
    · subst e
      refine lq_from_keep l d _ _ b ?_
      unfold lq_item
      rw [if_pos ((lq_rdt s a).mpr h3)]
      exact lq_add_has _ _ s b h4.2.2 h4.2.1 hl
    · exact lq_from_has l d (i + 1) _ (by rw [lq_item_len]; exact hl) a b (by omega) (by omega) (lq_item_keep l s i a h3) h4
theorem lq_from_in (l : List Int) (T : Nat → Prop) (hT : ∀ i j, T i → lq_E l i j → T j) : ∀ (d i : Nat) (s : List Bool), i + d ≤ l.length → (∀ m, s[m]? = some true → T m) → ∀ m, (lq_from l d i s)[m]? = some true → T m
  | 0, _, _, _, h, m, hm => h m hm
  | d + 1, i, s, hi, h, m, hm => by
    rw [lq_from] at hm
    refine lq_from_in l T hT d (i + 1) _ (by omega) (fun b hb => ?_) m hm
    unfold lq_item at hb
    by_cases e : rdOf false s (i : Int) = true
    · rw [if_pos e] at hb
      exact lq_add_in _ T _ s h (fun j hj hm => hT i j (h i ((lq_rdt s i).mp e)) ⟨by omega, hj, hm⟩) b hb
    · rw [if_neg e] at hb; exact h b hb
def lq_round (l : List Int) (s : List Bool) : List Bool := lq_from l l.length 0 s
def lq_start (l fr : List Int) : List Bool := lq_add l.length (List.replicate l.length false) fr
theorem lq_no (n : Nat) (i : Nat) : ¬ (List.replicate n false)[i]? = some true := by
  intro h
  rw [List.getElem?_replicate] at h
  split at h <;> simp at h
theorem lq_start_len (l fr : List Int) : (lq_start l fr).length = l.length := by unfold lq_start; rw [lq_add_len, List.length_replicate]
/-- What the rounds come to. -/
def lq_all (l fr : List Int) : List Bool := rc_iter (lq_round l) l.length (lq_start l fr)
theorem lq_all_len (l fr : List Int) : (lq_all l fr).length = l.length := by
  unfold lq_all
  rw [rc_iter_len (lq_round l) (fun s => lq_from_len l l.length 0 s), lq_start_len]
theorem lq_least (l fr : List Int) : Least (lq_E l) (lq_s0 l fr) (fun i => (lq_all l fr)[i]? = some true) := by
  have hfix : lq_round l (lq_all l fr) = lq_all l fr := rc_fix (lq_round l) (fun s => lq_from_len l l.length 0 s) (fun s i h => lq_from_keep l l.length 0 s i h) l.length (lq_start l fr) (by
    have := rc_count_le (lq_start l fr)
    rw [lq_start_len] at this
    exact this)
  refine ⟨fun i hi => ?_, fun i j hi hE => ?_, fun T h0 hT i hi => ?_⟩
  · exact rc_iter_keep (lq_round l) (fun s i h => lq_from_keep l l.length 0 s i h) l.length _ i (lq_add_has _ _ _ i hi.2 hi.1 List.length_replicate)
  · show (lq_all l fr)[j]? = some true
    rw [← hfix]
    exact lq_from_has l l.length 0 _ (lq_all_len l fr) i j (by omega) (by have := hE.1; omega) hi hE
  · have h1 : ∀ m, (lq_start l fr)[m]? = some true → T m := lq_add_in _ T fr _ (fun i hi => absurd hi (lq_no _ i)) (fun j hj hm => h0 j ⟨hj, hm⟩)
    have := rc_iter_in (lq_round l) (fun s => ∀ m, s[m]? = some true → T m) (fun s hs => lq_from_in l T hT l.length 0 s (by omega) hs) l.length (lq_start l fr) h1
    exact this i hi
theorem lq_r3 (l : List Int) (hl : l.length ≤ 1000) (rnd : Int) (i : Nat) (hi : i < l.length) (xs : List Int) (hx : xs.length ≤ 1000) (S : List Bool) (R : Option (List Bool)) (K : Nat)
    (hnext : ∀ k, K ≤ k → pascalineref06_Reached.l2 k l S rnd ((i + 1 : Nat) : Int) = R) (d : Nat) : ∀ (k j : Nat) (s : List Bool), j + d = xs.length → K + d < k → s.length = l.length → lq_add l.length s (xs.drop j) = S →
    pascalineref06_Reached.l3 k l s rnd (i : Int) xs (j : Int) = R := by
  induction d with
  | zero =>
    intro k j s hj hk hs hS
    obtain ⟨k, rfl⟩ : ∃ m, k = m + 1 := ⟨k - 1, by omega⟩
    rw [List.drop_eq_nil_of_le (by omega), lq_add] at hS
    subst hS
    simp only [pascalineref06_Reached.l3]
    rw [if_neg (by omega), lq_wrap (by omega) (by omega)]
    exact hnext k (by omega)
  | succ d ih =>
    intro k j s hj hk hs hS
    obtain ⟨k, rfl⟩ : ∃ m, k = m + 1 := ⟨k - 1, by omega⟩
    have hlt : j < xs.length := by omega
    rw [List.drop_eq_getElem_cons hlt, lq_add] at hS
    simp only [pascalineref06_Reached.l3]
    rw [if_pos (by omega), if_pos (by omega), lq_rd xs j hlt, lq_wrap (by omega) (by omega)]
    by_cases e : 0 ≤ xs[j] ∧ xs[j] < (l.length : Int)
    · rw [if_pos e] at hS
      rw [if_pos e.1, if_pos e.2, if_pos e.1, if_pos (by omega)]
      exact ih k (j + 1) _ (by omega) (by omega) (by rw [List.length_set]; exact hs) hS
    · rw [if_neg e] at hS
      have hn := ih k (j + 1) s (by omega) (by omega) hs hS
      by_cases e1 : xs[j] ≥ 0
      · rw [if_pos e1, if_neg (by omega)]; exact hn
      · rw [if_neg e1]; exact hn
theorem lq_r2 (l : List Int) (hl : l.length ≤ 1000) (hW : LqW l) (rnd : Int) (S : List Bool) (R : Option (List Bool)) (K : Nat)
    (hnext : ∀ k, K ≤ k → pascalineref06_Reached.l1 k l S (wrap64 (rnd + 1)) = R) (d : Nat) : ∀ (k i : Nat) (s : List Bool), i + d = l.length → K + 100 * (d + 1) < k → s.length = l.length → lq_from l d i s = S →
    pascalineref06_Reached.l2 k l s rnd (i : Int) = R := by
  induction d with
  | zero =>
    intro k i s hi hk hs hS
    obtain ⟨k, rfl⟩ : ∃ m, k = m + 1 := ⟨k - 1, by omega⟩
    rw [lq_from] at hS
    subst hS
    simp only [pascalineref06_Reached.l2]
    rw [if_neg (by omega)]
    exact hnext k (by omega)
  | succ d ih =>
    intro k i s hi hk hs hS
    obtain ⟨k, rfl⟩ : ∃ m, k = m + 1 := ⟨k - 1, by omega⟩
    rw [lq_from] at hS
    simp only [pascalineref06_Reached.l2]
    rw [if_pos (by omega), if_pos (by omega), if_pos (by omega)]
    by_cases e : rdOf false s (i : Int) = true
    · have hn2 := lq_ns_len l (i : Int)
      rw [if_pos e, lq_rnext l hW hl i (by omega) k (by omega), Option.bind_some]
      refine lq_r3 l hl rnd i (by omega) (lq_ns l (i : Int)) (by omega) (lq_item l s i) R (K + 100 * (d + 1) + 1) (fun k' hk' => ih k' (i + 1) _ (by omega) (by omega) (by rw [lq_item_len]; exact hs) hS) (lq_ns l (i : Int)).length k 0 s (by omega) (by omega) hs ?_
      unfold lq_item
      rw [if_pos e, List.drop_zero]
    · rw [if_neg e, lq_wrap (by omega) (by omega)]
      unfold lq_item at hS
      rw [if_neg e] at hS
      exact ih k (i + 1) s (by omega) (by omega) hs hS
theorem lq_r1 (l : List Int) (hl : l.length ≤ 100) (hW : LqW l) (d : Nat) : ∀ (k r : Nat) (s : List Bool), r + d = l.length → 20000 * (d + 1) < k → s.length = l.length →
    pascalineref06_Reached.l1 k l s (r : Int) = some (rc_iter (lq_round l) d s) := by
  induction d with
  | zero =>
    intro k r s hr hk hs
    obtain ⟨k, rfl⟩ : ∃ m, k = m + 1 := ⟨k - 1, by omega⟩
    simp only [pascalineref06_Reached.l1]
    rw [if_neg (by omega), rc_iter]
  | succ d ih =>
    intro k r s hr hk hs
    obtain ⟨k, rfl⟩ : ∃ m, k = m + 1 := ⟨k - 1, by omega⟩
    simp only [pascalineref06_Reached.l1]
    rw [if_pos (by omega), rc_iter]
    refine lq_r2 l (by omega) hW (r : Int) (lq_round l s) _ (20000 * (d + 1) + 1) (fun k' hk' => ?_) l.length k 0 s (by omega) (by omega) hs rfl
    rw [lq_wrap (by omega) (by omega)]
    exact ih k' (r + 1) _ (by omega) (by omega) (by unfold lq_round; rw [lq_from_len]; exact hs)
theorem lq_r0 (l fr : List Int) (hl : l.length ≤ 100) (hf : fr.length ≤ 100) (hW : LqW l) (S : List Bool) (d : Nat) : ∀ (k j : Nat) (s : List Bool), j + d = fr.length → 3000000 + d < k → s.length = l.length → lq_add l.length s (fr.drop j) = S →
    pascalineref06_Reached.l0 k l fr s (j : Int) = some (rc_iter (lq_round l) l.length S) := by
  induction d with
  | zero =>
    intro k j s hj hk hs hS
    obtain ⟨k, rfl⟩ : ∃ m, k = m + 1 := ⟨k - 1, by omega⟩
    rw [List.drop_eq_nil_of_le (by omega), lq_add] at hS
    subst hS
    simp only [pascalineref06_Reached.l0]
    rw [if_neg (by omega)]
    exact lq_r1 l hl hW l.length k 0 s (by omega) (by omega) hs
  | succ d ih =>
    intro k j s hj hk hs hS
    obtain ⟨k, rfl⟩ : ∃ m, k = m + 1 := ⟨k - 1, by omega⟩
    have hlt : j < fr.length := by omega
    rw [List.drop_eq_getElem_cons hlt, lq_add] at hS
    simp only [pascalineref06_Reached.l0]
    rw [if_pos (by omega), if_pos (by omega), lq_rd fr j hlt, lq_wrap (by omega) (by omega)]
    by_cases e : 0 ≤ fr[j] ∧ fr[j] < (l.length : Int)
    · rw [if_pos e] at hS
      rw [if_pos e.1, if_pos e.2, if_pos e.1, if_pos (by omega)]
      exact ih k (j + 1) _ (by omega) (by omega) (by rw [List.length_set]; exact hs) hS
    · rw [if_neg e] at hS
      have hn := ih k (j + 1) s (by omega) (by omega) hs hS
      by_cases e1 : fr[j] ≥ 0
      · rw [if_pos e1, if_neg (by omega)]; exact hn
      · rw [if_neg e1]; exact hn
theorem lq_ref (l fr : List Int) (hl : l.length ≤ 100) (hf : fr.length ≤ 100) (hW : LqW l) (k : Nat) (hk : 4000000 < k) : pascalineref06_Reached.f k l fr = some (lq_all l fr) := by
  unfold pascalineref06_Reached.f
  rw [if_pos (by omega), if_pos (by omega), Int.toNat_natCast]
  exact lq_r0 l fr hl hf hW _ fr.length k 0 _ (by omega) (by omega) List.length_replicate (by rw [List.drop_zero]; rfl)
/-- Where the program's walk stands. -/
structure LqInv (l fr : List Int) (s : List Bool) (op : List Int) : Prop where
  len : s.length = l.length
  start : ∀ i, lq_s0 l fr i → (i : Int) ∈ op ∨ s[i]? = some true
  closed : ∀ i : Nat, s[i]? = some true → ∀ j, lq_E l i j → (j : Int) ∈ op ∨ s[j]? = some true
  least : ∀ T : Nat → Prop, (∀ i, lq_s0 l fr i → T i) → (∀ i j, T i → lq_E l i j → T j) → (∀ i : Nat, s[i]? = some true → T i) ∧ ∀ j : Nat, j < l.length → (j : Int) ∈ op → T j
theorem lq_inv_least (l fr : List Int) (s : List Bool) (h : LqInv l fr s []) : Least (lq_E l) (lq_s0 l fr) (fun i => s[i]? = some true) :=
  ⟨fun i hi => (h.start i hi).resolve_left (by simp), fun i j hi hE => (h.closed i hi j hE).resolve_left (by simp), fun T h0 hT i hi => (h.least T h0 hT).1 i hi⟩
theorem lq_all_of (l fr : List Int) (s : List Bool) (h : LqInv l fr s []) : s = lq_all l fr :=
  rc_ext (by rw [h.len, lq_all_len]) (fun i => Least.one (lq_inv_least l fr s h) (lq_least l fr) i)
theorem lq_split (op : List Int) (h : 0 < op.length) : op = lr_rest op ++ [lr_last op] := by
  have e : lr_last op = op[op.length - 1] := by
    unfold lr_last
    rw [show ((op.length : Int) - 1) = ((op.length - 1 : Nat) : Int) by omega]
    exact lq_rd op _ (by omega)
  rw [e]
  unfold lr_rest
  conv => lhs; rw [← List.take_append_drop (op.length - 1) op]
  congr 1
  rw [List.drop_eq_getElem_cons (by omega), List.drop_eq_nil_of_le (by omega)]
theorem lq_p0 (l fr : List Int) (hl : l.length ≤ 100) (hW : LqW l) (d : Nat) (hd9 : d ≤ 100000) : ∀ (k : Nat) (s : List Bool) (op : List Int), LqInv l fr s op → 3 * s.count false + op.length ≤ d → d + 1000 < k →
    listing_Reached.l0 l k s op = some (lq_all l fr) := by
  induction d with
  | zero =>
    intro k s op hI hd hk
    obtain ⟨k, rfl⟩ : ∃ m, k = m + 1 := ⟨k - 1, by omega⟩
    obtain rfl : op = [] := List.eq_nil_of_length_eq_zero (by omega)
    rw [listing_Reached.l0, if_pos (by simp), if_pos (by simp), lq_all_of l fr s hI]
  | succ d ih =>
    intro k s op hI hd hk
    replace ih := ih (by omega)
    obtain ⟨k, rfl⟩ : ∃ m, k = m + 1 := ⟨k - 1, by omega⟩
    have hs := hI.len
    by_cases h0 : op.length = 0
    · obtain rfl : op = [] := List.eq_nil_of_length_eq_zero h0
      rw [listing_Reached.l0, if_pos (by simp), if_pos (by simp), lq_all_of l fr s hI]
    · have hsp := lq_split op (by omega)
      have hyl : (lr_rest op).length = op.length - 1 := by unfold lr_rest; rw [List.length_take]; omega
      rw [listing_Reached.l0, if_pos (by omega), if_neg h0]
      generalize lr_last op = x at hsp
      generalize lr_rest op = y at hsp hyl
      have hmem : ∀ v, v ∈ op → v ∈ y ∨ v = x := fun v hv => by rw [hsp] at hv; simpa using hv
      have hsub : ∀ v, v ∈ y → v ∈ op := fun v hv => by rw [hsp]; exact List.mem_append_left _ hv
      have hxo : x ∈ op := by rw [hsp]; simp
      by_cases hsk : lr_skip l s x = true
      · rw [if_pos hsk]
        have hc : ∀ j : Nat, j < l.length → (j : Int) = x → s[j]? = some true := by
          intro j hj e
          unfold lr_skip at hsk
          rw [← e, decide_eq_false (show ¬ (j : Int) < 0 by omega), decide_eq_false (show ¬ (l.length : Int) ≤ (j : Int) by omega), Bool.false_or, Bool.false_or] at hsk
          exact (lq_rdt s j).mp hsk
        refine ih k s y ⟨hs, fun i hi => ?_, fun i hi j hE => ?_, fun T h1 h2 => ⟨((hI.least T h1 h2).1), fun j hj hv => (hI.least T h1 h2).2 j hj (hsub _ hv)⟩⟩ (by omega) (by omega)
        · rcases hI.start i hi with h | h
          · rcases hmem _ h with h | h
            · exact .inl h
            · exact .inr (hc i hi.1 h)
          · exact .inr h
        · rcases hI.closed i hi j hE with h | h
          · rcases hmem _ h with h | h
            · exact .inl h
            · exact .inr (hc j hE.2.1 h)
          · exact .inr h
      · rw [if_neg hsk]
        have x0 : ¬ x < 0 := fun e => hsk (by unfold lr_skip; rw [decide_eq_true e, Bool.true_or])
        have x1 : ¬ (l.length : Int) ≤ x := fun e => hsk (by unfold lr_skip; rw [decide_eq_true e, Bool.true_or, Bool.or_true])
        obtain ⟨m, rfl⟩ : ∃ m : Nat, x = (m : Int) := ⟨x.toNat, by omega⟩
        have hsx : rdOf false s (m : Int) = false := by
          cases e : rdOf false s (m : Int) with
          | false => rfl
          | true => exact absurd (by unfold lr_skip; rw [e, Bool.or_true, Bool.or_true]) hsk
        have hn2 := lq_ns_len l (m : Int)
        rw [lq_next l hW m (by omega) k (by omega), Option.bind_some, Int.toNat_natCast]
        have hsm : s[m]'(by omega) = false := by
          rw [lq_rdD s m (by omega)] at hsx
          exact hsx
        have hcnt : (s.set m true).count false = s.count false - 1 := by
          rw [List.count_set (by omega), hsm]; simp
        have hpos : 0 < s.count false := List.count_pos_iff.mpr (by rw [← hsm]; exact List.getElem_mem _)
        have hself : (s.set m true)[m]? = some true := by rw [List.getElem?_set, if_pos rfl, if_pos (by omega)]
        refine ih k _ _ ⟨by rw [List.length_set]; exact hs, fun i hi => ?_, fun i hi j hE => ?_, fun T h1 h2 => ?_⟩ (by rw [List.length_append]; omega) (by omega)
        · rcases hI.start i hi with h | h
          · rcases hmem _ h with h | h
            · exact .inl (List.mem_append_left _ h)
            · obtain rfl : i = m := by omega
              exact .inr hself
          · exact .inr (lq_set s m i h)
        · by_cases him : i = m
          · subst him; exact .inl (List.mem_append_right _ hE.2.2)
          · rw [List.getElem?_set, if_neg (fun e => him e.symm)] at hi
            rcases hI.closed i hi j hE with h | h
            · rcases hmem _ h with h | h
              · exact .inl (List.mem_append_left _ h)
              · obtain rfl : j = m := by omega
                exact .inr hself
            · exact .inr (lq_set s m j h)
        · obtain ⟨h3, h4⟩ := hI.least T h1 h2
          have hTm : T m := h4 m (by omega) hxo
          refine ⟨fun i hi => ?_, fun j hj hv => ?_⟩
          · rw [List.getElem?_set] at hi
            by_cases him : m = i
            · subst him; exact hTm
            · rw [if_neg him] at hi; exact h3 i hi
          · rcases List.mem_append.1 hv with hv | hv
            · exact h4 j hj (hsub _ hv)
            · exact h2 m j hTm ⟨by omega, hj, hv⟩
theorem lq_prog (l fr : List Int) (hl : l.length ≤ 100) (hf : fr.length ≤ 100) (hW : LqW l) (k : Nat) (hk : 10000 < k) : listing_Reached.f k l fr = some (lq_all l fr) := by
  unfold listing_Reached.f
  rw [if_pos ⟨by omega, by omega⟩]
  refine lq_p0 l fr hl hW (3 * l.length + fr.length) (by omega) k _ _ ⟨List.length_replicate, fun i hi => .inl hi.2, fun i hi => absurd hi (lq_no _ i), fun T h1 h2 => ⟨fun i hi => absurd hi (lq_no _ i), fun j hj hv => h1 j ⟨hj, hv⟩⟩⟩ ?_ (by omega)
  have := rc_count_le (List.replicate l.length false)
  rw [List.length_replicate] at this
  omega
theorem lq_same (s : List Bool) (hs : s.length ≤ 1000) (d : Nat) : ∀ (k i : Nat), i + d = s.length → d < k → pascalinelaw06_ListingReaches.l0 k s s (i : Int) = some true := by
  induction d with
  | zero =>
    intro k i hi hk
    obtain ⟨k, rfl⟩ : ∃ m, k = m + 1 := ⟨k - 1, by omega⟩
    simp only [pascalinelaw06_ListingReaches.l0]
    rw [if_neg (by omega)]
  | succ d ih =>
    intro k i hi hk
    obtain ⟨k, rfl⟩ : ∃ m, k = m + 1 := ⟨k - 1, by omega⟩
    simp only [pascalinelaw06_ListingReaches.l0]
    rw [if_pos (by omega), if_pos (by omega), if_pos (by omega), if_neg (by simp), lq_wrap (by omega) (by omega)]
    exact ih k (i + 1) (by omega) (by omega)
end Go.Proofs.Ytfagpgpeiomnpaa.Q

/- One module more, that uses nothing and that nobody uses: the order is the same, and it comes last. -/
import Derived.Test.YtnfgncapmkpcjaaPx1
import Derived.Test.YtnfgncapmkpcjaaPx4
import Derived.Test.YtnfgncapmkpcjaaPx17
import Derived.Test.YtnfgncapmkpcjaaQOrder4
namespace Go.Proofs.Ytnfgncapmkpcjaa.Q
set_option linter.unusedSimpArgs false
set_option linter.unusedVariables false
open Go Go.RowKit Go.Proofs.Ytnfgncapmkpcjaa.P Go.Proofs.Ytnfgncapmkpcjaa.C Go.Proofs.YtnfgncapmkpcjaaW.PrintWords Go.Proofs.YtnfgncapmkpcjaaW.PrintLast Go.Proofs.YtnfgncapmkpcjaaW.PrintMore
theorem om_new : oy_new.toList = [78, 101, 119, 32, 111, 110, 101] := by kernel_rfl
theorem om_len (l : List S41) : (oy_more l).length = l.length + 1 := by unfold oy_more; simp
theorem om_rd (l : List S41) (j : Nat) (h : j < l.length) : rd_T41 (oy_more l) (j : Int) = rd_T41 l (j : Int) := by
  rw [od_rd _ j (by rw [om_len]; omega), od_rd _ j h]
  unfold oy_more
  rw [List.getElem_append_left h]
theorem om_rdn (l : List S41) : rd_T41 (oy_more l) (l.length : Int) = ⟨oy_new, []⟩ := by
  rw [od_rd _ _ (by rw [om_len]; omega)]
  unfold oy_more
  rw [List.getElem_append_right (by omega)]
  simp
theorem om_ix {α : Type} (p : α → Bool) (x : α) : ∀ (l : List α) (i : Int), 0 ≤ i → os_ix p (l ++ [x]) i = if 0 ≤ os_ix p l i then os_ix p l i else if p x = true then i + (l.length : Int) else -1
  | [], i, h => by
    rw [List.nil_append, show os_ix p [x] i = if p x = true then i else -1 from rfl, show os_ix p ([] : List α) i = -1 from rfl, if_neg (show ¬ (0 : Int) ≤ -1 by decide)]
    simp
  | y :: l, i, h => by
    rw [List.cons_append]
    unfold os_ix
    by_cases e : p y = true
    · rw [if_pos e, if_pos e, if_pos h]
    · rw [if_neg e, if_neg e, om_ix p x l (i + 1) (by omega), List.length_cons]
      split
      · rfl
      · split
        · omega
        · rfl
theorem om_find (l : List S41) (a : ByteArray) (h : oy_is a = false) : os_find (oy_more l) a = os_find l a := by
  unfold os_find oy_more
  rw [om_ix _ _ l 0 (by omega)]
  have h1 := os_ix_lt (os_is a) l 0
  have h2 : os_is a (⟨oy_new, []⟩ : S41) = false := by
    unfold os_is
    unfold oy_is at h
    show (oy_new.toList == a.toList) = false
    rw [om_new]
    simp only [beq_eq_false_iff_ne, ne_eq] at h ⊢
    exact fun e => h e.symm
  rw [h2]
  split
  · rfl
  · simp; omega
/-- Nobody is named so, nobody uses it. -/
structure OmNo (l : List S41) : Prop where
  name : ∀ i : Nat, i < l.length → oy_is (rd_T41 l (i : Int)).f0 = false
  use : ∀ i : Nat, i < l.length → ∀ u ∈ (rd_T41 l (i : Int)).f1, oy_is u = false
theorem om_no (l : List S41) (h : ¬ l.any oy_one = true) : OmNo l := by
  have hall : ∀ i : Nat, i < l.length → oy_one (rd_T41 l (i : Int)) = false := by
    intro i hi
    have := List.any_eq_false.mp (by simpa using h) _ (od_mem l i hi)
    simpa using this
  refine ⟨fun i hi => ?_, fun i hi u hu => ?_⟩
  · have := hall i hi
    unfold oy_one at this
    exact (Bool.or_eq_false_iff.mp this).1
  · have := hall i hi
    unfold oy_one at this
    have h2 := List.any_eq_false.mp (Bool.or_eq_false_iff.mp this).2 u hu
    simpa using h2
theorem om_find_new (l : List S41) (hn : OmNo l) : os_find (oy_more l) oy_new = (l.length : Int) := by
  have h1 : os_find l oy_new = -1 := by
    rw [od_find_first]
    cases e : od_first (fun j => os_is oy_new (rd_T41 l (j : Int))) l.length 0 with
    | none => rfl
    | some j =>
      obtain ⟨_, h2, h3, _⟩ := od_first_some _ _ _ _ e
      have h4 := hn.name j (by omega)
      unfold os_is at h3
      unfold oy_is at h4
      rw [om_new] at h3
      rw [h3] at h4
      cases h4
  unfold os_find at h1 ⊢
  unfold oy_more
  rw [om_ix _ _ l 0 (by omega), h1, if_neg (by decide), if_pos (show os_is oy_new (⟨oy_new, []⟩ : S41) = true from beq_iff_eq.mpr rfl)]
  omega
theorem om_dup (l : List S41) (hn : OmNo l) : od_first (od_dup (oy_more l)) (l.length + 1) 0 = od_first (od_dup l) l.length 0 := by
  rw [od_first_last, od_first_congr _ (od_dup l) l.length 0 (fun j _ hj => ?_)]
  · cases od_first (od_dup l) l.length 0 with
    | some j => rfl
    | none =>
      show (if od_dup (oy_more l) (0 + l.length) = true then some (0 + l.length) else none) = none
      rw [if_neg]
      unfold od_dup
      rw [show 0 + l.length = l.length by omega, om_rdn]
      show ¬ decide (os_find (oy_more l) oy_new < (l.length : Int)) = true
      rw [om_find_new l hn]
      simp
  · unfold od_dup
    rw [om_rd l j (by omega), om_find l _ (hn.name j (by omega))]
theorem om_mis (l : List S41) (hn : OmNo l) : od_first (od_mis (oy_more l)) (l.length + 1) 0 = od_first (od_mis l) l.length 0 := by
  rw [od_first_last, od_first_congr _ (od_mis l) l.length 0 (fun j _ hj => ?_)]
  · cases od_first (od_mis l) l.length 0 with
    | some j => rfl
    | none =>
      show (if od_mis (oy_more l) (0 + l.length) = true then some (0 + l.length) else none) = none
      rw [if_neg]
      unfold od_mis
      rw [show 0 + l.length = l.length by omega, om_rdn]
      simp
  · unfold od_mis
    rw [om_rd l j (by omega)]
    have hu := hn.use j (by omega)
    generalize (rd_T41 l (j : Int)).f1 = us at hu
    induction us with
    | nil => rfl
    | cons u us ih => rw [List.any_cons, List.any_cons, om_find l u (hu u List.mem_cons_self), ih (fun v hv => hu v (List.mem_cons_of_mem _ hv))]
theorem om_chk (l : List S41) (hn : OmNo l) (h : l.length < 64) : od_chk (oy_more l) = od_chk l := by
  unfold od_chk
  rw [om_len, if_neg (by omega), if_neg (by omega), om_dup l hn, om_mis l hn]
theorem om_rdD (D : List Bool) (b : Bool) (j : Nat) (h : j < D.length) : rdOf false (D ++ [b]) (j : Int) = rdOf false D (j : Int) := by
  rw [od_rdD _ j (by simp; omega), od_rdD _ j h, List.getElem_append_left h]
theorem om_rdDn (D : List Bool) (b : Bool) : rdOf false (D ++ [b]) (D.length : Int) = b := by
  rw [od_rdD _ _ (by simp), List.getElem_append_right (by omega)]
  simp
theorem om_rdy (l : List S41) (h : OdOk l) (hn : OmNo l) (D : List Bool) (hD : D.length = l.length) (b : Bool) (j : Nat) (hj : j < l.length) : od_rdy (oy_more l) (D ++ [b]) j = od_rdy l D j := by
  unfold od_rdy
  rw [om_rd l j hj, om_rdD D b j (by omega)]
  congr 1
  have hu := hn.use j hj
  have hh := h.has j hj
  generalize (rd_T41 l (j : Int)).f1 = us at hu hh
  induction us with
  | nil => rfl
  | cons u us ih =>
    have h1 := od_find_lt l u
    have h2 := hh u List.mem_cons_self
    obtain ⟨t, ht⟩ : ∃ t : Nat, os_find l u = (t : Int) := ⟨(os_find l u).toNat, by omega⟩
    rw [List.all_cons, List.all_cons, om_find l u (hu u List.mem_cons_self), ht, om_rdD D b t (by omega), ih (fun v hv => hu v (List.mem_cons_of_mem _ hv)) (fun v hv => hh v (List.mem_cons_of_mem _ hv))]
theorem om_rdyn (l : List S41) (D : List Bool) (hD : D.length = l.length) (b : Bool) : od_rdy (oy_more l) (D ++ [b]) l.length = !b := by
  unfold od_rdy
  rw [om_rdn, ← hD, om_rdDn]
  simp
theorem om_firstr (l : List S41) (h : OdOk l) (hn : OmNo l) (D : List Bool) (hD : D.length = l.length) (b : Bool) : od_first (od_rdy (oy_more l) (D ++ [b])) (l.length + 1) 0 = match od_first (od_rdy l D) l.length 0 with | some j => some j | none => if b = true then none else some l.length := by
  rw [od_first_last, od_first_congr _ (od_rdy l D) l.length 0 (fun j _ hj => om_rdy l h hn D hD b j (by omega))]
  cases od_first (od_rdy l D) l.length 0 with
  | some j => rfl
  | none =>
    show (if od_rdy (oy_more l) (D ++ [b]) (0 + l.length) = true then some (0 + l.length) else none) = if b = true then none else some l.length
    rw [show 0 + l.length = l.length by omega, om_rdyn l D hD b]
    cases b <;> rfl
theorem om_step (l : List S41) (h : OdOk l) (hn : OmNo l) (d : Nat) (D : List Bool) (hD : D.length = l.length) (b : Bool) (out : List Int) : od_srt (oy_more l) (d + 1) (D ++ [b]) out = match (match od_first (od_rdy l D) l.length 0 with | some j => some j | none => if b = true then none else some l.length) with
    | some j => od_srt (oy_more l) d ((D ++ [b]).set j true) (out ++ [(j : Int)])
    | none => ([], od_n (od_first (fun j => !(rdOf false (D ++ [b]) (j : Int))) (l.length + 1) 0) (-1), 143) := by
  rw [od_srt, om_len, om_firstr l h hn D hD b]
  cases od_first (od_rdy l D) l.length 0 <;> cases b <;> rfl
theorem om_srt (l : List S41) (h : OdOk l) (hn : OmNo l) (d : Nat) : ∀ (D : List Bool) (out : List Int), D.length = l.length → out.length + d = l.length → D.count true = out.length →
    ((od_srt l d D out).2.2 = 0 → od_srt (oy_more l) (d + 1) (D ++ [false]) out = ((od_srt l d D out).1 ++ [(l.length : Int)], 0, 0)) ∧ (¬ (od_srt l d D out).2.2 = 0 → (od_srt (oy_more l) (d + 1) (D ++ [false]) out).2.2 = (od_srt l d D out).2.2) := by
  induction d with
  | zero =>
    intro D out hD ho hc
    refine ⟨fun _ => ?_, fun hx => absurd rfl hx⟩
    have hnone : od_first (od_rdy l D) l.length 0 = none := by
      cases e : od_first (od_rdy l D) l.length 0 with
      | none => rfl
      | some j =>
        obtain ⟨_, h2, h3, _⟩ := od_first_some _ _ _ _ e
        have h1 := List.count_eq_length.mp (show D.count true = D.length by omega)
        have h4 := h1 _ (List.getElem_mem (show j < D.length by omega))
        unfold od_rdy at h3
        rw [Bool.and_eq_true, od_rdD D j (by omega), ← h4] at h3
        simp at h3
    rw [om_step l h hn 0 D hD false out, hnone]
    rfl
  | succ d ih =>
    intro D out hD ho hc
    rw [om_step l h hn (d + 1) D hD false out]
    rw [show od_srt l (d + 1) D out = match od_first (od_rdy l D) l.length 0 with
      | some j => od_srt l d (D.set j true) (out ++ [(j : Int)])
      | none => ([], od_n (od_first (fun j => !(rdOf false D (j : Int))) l.length 0) (-1), 143) from rfl]
    cases e : od_first (od_rdy l D) l.length 0 with
    | some j =>
      obtain ⟨_, h2, h3, _⟩ := od_first_some _ _ _ _ e
      have hf : rdOf false D (j : Int) = false := by
        unfold od_rdy at h3
        rw [Bool.and_eq_true] at h3
        simpa using h3.2
      have := ih (D.set j true) (out ++ [(j : Int)]) (by rw [List.length_set]; exact hD) (by simp; omega) (by rw [od_count D j (by omega) hf]; simp; omega)
      have hset : (D ++ [false]).set j true = D.set j true ++ [false] := List.set_append_left _ _ (by omega)
      rw [← hset] at this
      exact this
    | none =>
      refine ⟨fun hx => absurd hx (by show ¬ (143 : Int) = 0; omega), fun _ => ?_⟩
      show (od_srt (oy_more l) (d + 1) ((D ++ [false]).set l.length true) (out ++ [(l.length : Int)])).2.2 = 143
      rw [show (D ++ [false]).set l.length true = D ++ [true] by rw [List.set_append_right _ _ (by omega), hD]; simp]
      rw [om_step l h hn d D hD true, e]
      rfl
end Go.Proofs.Ytnfgncapmkpcjaa.Q

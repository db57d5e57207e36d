/- What one comes to, round by round: a set that is closed, and the least one. No program in sight. -/
namespace Go.Proofs.Ytfagpgpeiomnpaa.C
theorem rc_le : ∀ (s t : List Bool), t.length = s.length → (∀ i : Nat, s[i]? = some true → t[i]? = some true) → t.count false ≤ s.count false ∧ (t.count false = s.count false → t = s)
  | [], t, hl, _ => by
    have : t = [] := List.eq_nil_of_length_eq_zero hl
    subst this
    exact ⟨Nat.le_refl _, fun _ => rfl⟩
  | a :: s, [], hl, _ => by simp at hl
  | a :: s, b :: t, hl, h => by
    have ih := rc_le s t (by simpa using hl) (fun i hi => by have := h (i + 1) (by simpa using hi); simpa using this)
    have h0 := h 0
    cases a <;> cases b
    · simp only [List.count_cons_self]
      exact ⟨by omega, fun e => by rw [ih.2 (by omega)]⟩
    · rw [List.count_cons_self, List.count_cons_of_ne (by decide)]
      exact ⟨by omega, fun e => by omega⟩
    · simp at h0
    · rw [List.count_cons_of_ne (by decide), List.count_cons_of_ne (by decide)]
      exact ⟨ih.1, fun e => by rw [ih.2 e]⟩
def rc_iter (f : List Bool → List Bool) : Nat → List Bool → List Bool
  | 0, s => s
  | n + 1, s => rc_iter f n (f s)
theorem rc_stay (f : List Bool → List Bool) {s : List Bool} (h : f s = s) : ∀ n, rc_iter f n s = s
  | 0 => rfl
  | n + 1 => by rw [rc_iter, h]; exact rc_stay f h n
/-- Where no round takes anything away, so many rounds as there are places come to where a round adds nothing. -/
theorem rc_fix (f : List Bool → List Bool) (hl : ∀ s, (f s).length = s.length) (hm : ∀ (s : List Bool) (i : Nat), s[i]? = some true → (f s)[i]? = some true) : ∀ (n : Nat) (s : List Bool), s.count false ≤ n → f (rc_iter f n s) = rc_iter f n s
  | 0, s, h => by
    have := rc_le s (f s) (hl s) (hm s)
    exact this.2 (by omega)
  | n + 1, s, h => by
    by_cases e : f s = s
    · rw [rc_stay f e]; exact e
    · have := rc_le s (f s) (hl s) (hm s)
      have hlt : (f s).count false ≤ n := by
        rcases Nat.lt_or_eq_of_le this.1 with h1 | h1
        · omega
        · exact absurd (this.2 h1) e
      rw [rc_iter]
      exact rc_fix f hl hm n (f s) hlt
theorem rc_count_le (s : List Bool) : s.count false ≤ s.length := List.count_le_length
theorem rc_iter_len (f : List Bool → List Bool) (hl : ∀ s, (f s).length = s.length) : ∀ n s, (rc_iter f n s).length = s.length
  | 0, _ => rfl
  | n + 1, s => by rw [rc_iter, rc_iter_len f hl n, hl]
theorem rc_iter_keep (f : List Bool → List Bool) (hm : ∀ (s : List Bool) (i : Nat), s[i]? = some true → (f s)[i]? = some true) : ∀ n s (i : Nat), s[i]? = some true → (rc_iter f n s)[i]? = some true
  | 0, _, _, h => h
  | n + 1, s, i, h => by rw [rc_iter]; exact rc_iter_keep f hm n _ i (hm s i h)
/-- Whatever each round keeps to, all rounds keep to. -/
theorem rc_iter_in (f : List Bool → List Bool) (Q : List Bool → Prop) (hq : ∀ s, Q s → Q (f s)) : ∀ n s, Q s → Q (rc_iter f n s)
  | 0, _, h => h
  | n + 1, s, h => by rw [rc_iter]; exact rc_iter_in f Q hq n _ (hq s h)
/-- The least set that holds some places and, with each place, all to which it leads. -/
structure Least (E : Nat → Nat → Prop) (s0 S : Nat → Prop) : Prop where
  start : ∀ i, s0 i → S i
  closed : ∀ i j, S i → E i j → S j
  least : ∀ T : Nat → Prop, (∀ i, s0 i → T i) → (∀ i j, T i → E i j → T j) → ∀ i, S i → T i
theorem Least.one {E : Nat → Nat → Prop} {s0 S S' : Nat → Prop} (h : Least E s0 S) (h' : Least E s0 S') (i : Nat) : S i ↔ S' i :=
  ⟨h.least S' h'.start h'.closed i, h'.least S h.start h.closed i⟩
theorem rc_ext {s t : List Bool} (hl : s.length = t.length) (h : ∀ i : Nat, s[i]? = some true ↔ t[i]? = some true) : s = t := by
  apply List.ext_getElem hl
  intro i h1 h2
  have := h i
  rw [List.getElem?_eq_getElem h1, List.getElem?_eq_getElem h2] at this
  cases e1 : s[i] <;> cases e2 : t[i] <;> simp [e1, e2] at this ⊢
end Go.Proofs.Ytfagpgpeiomnpaa.C

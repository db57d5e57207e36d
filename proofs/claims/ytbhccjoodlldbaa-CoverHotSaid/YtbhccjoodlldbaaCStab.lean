/- The stable sort by merging (insertion of blocks, SymMerge), plain: what each part does to a row. No program in sight. -/
import Derived.Sort.LotA
import Derived.Shelf.SlSortCmp.Kit1
import Derived.Sort.WalkB2
import Derived.Sort.WalkB12
import Derived.Deep.LoopGhost
import Derived.Deep.DeepCutAuto
import Derived.Deep.CutBlock
namespace Go.Proofs.Ytbhccjoodlldbaa.C
open Go.Sort
variable {α : Type} [Inhabited α] {lt le2 : α → α → Bool}

/-! ### A search by halves -/
/-- p holds up to some place and not from there on; what is known at (i, j). -/
def StBs (p : Nat → Bool) (lo hi i j : Nat) : Prop := lo ≤ i ∧ i ≤ j ∧ j ≤ hi ∧ (∀ k, lo ≤ k → k < i → p k = true) ∧ (∀ k, j ≤ k → k < hi → p k = false)
theorem st_bs_start (p : Nat → Bool) {lo hi : Nat} (h : lo ≤ hi) : StBs p lo hi lo hi := ⟨Nat.le_refl _, h, Nat.le_refl _, fun _ _ _ => by omega, fun _ _ _ => by omega⟩
theorem st_bs_up {p : Nat → Bool} {lo hi i j h : Nat} (hm : ∀ k l, lo ≤ k → k ≤ l → l < hi → p l = true → p k = true) (H : StBs p lo hi i j) (h1 : i ≤ h) (h2 : h < j) (hp : p h = true) : StBs p lo hi (h + 1) j := by
  obtain ⟨a1, a2, a3, a4, a5⟩ := H
  exact ⟨by omega, by omega, a3, fun k hk hk2 => hm k h hk (by omega) (by omega) hp, a5⟩
theorem st_bs_down {p : Nat → Bool} {lo hi i j h : Nat} (hm : ∀ k l, lo ≤ k → k ≤ l → l < hi → p l = true → p k = true) (H : StBs p lo hi i j) (h1 : i ≤ h) (h2 : h < j) (hp : p h = false) : StBs p lo hi i h := by
  obtain ⟨a1, a2, a3, a4, a5⟩ := H
  refine ⟨a1, h1, by omega, a4, fun k hk hk2 => ?_⟩
  cases e : p k with
  | false => rfl
  | true => rw [hm h k (by omega) hk hk2 e] at hp; cases hp

/-! ### What a stretch is -/
/-- Behind each other two elements stand by Q where one is of the first stretch and one of the second. -/
def StAc (Q : α → α → Prop) (a m b : Nat) (d : Array α) : Prop := ∀ i j, a ≤ i → i < m → m ≤ j → j < b → Q d[i]! d[j]!
/-- Where x stands ahead of y by Q, the test on y and x is the order's own. -/
def StTest (lt le2 : α → α → Bool) (Q : α → α → Prop) : Prop := ∀ x y, Q x y → lt y x = le2 y x

/-- SortedIn, ends meeting. -/
theorem st_sorted_le (h : SWO le2) {a b : Nat} {d : Array α} (hs : SortedIn le2 a b d) {i j : Nat} (h1 : a ≤ i) (h2 : i ≤ j) (h3 : j < b) : le2 d[j]! d[i]! = false := by
  rcases Nat.lt_or_ge i j with e | e
  · exact hs i j h1 e h3
  · have : i = j := by omega
    subst this
    exact h.irrefl _
omit [Inhabited α] in
theorem st_lt_of (h : SWO le2) {x y z : α} (h1 : le2 y x = false) (h2 : le2 y z = true) : le2 x z = true := by
  -- x at most y, y less than z
  cases e : le2 x z with
  | true => rfl
  | false =>
    -- not (x < z): z at most x, so z at most y, against y < z
    have := h.ntrans y x z h1 e
    rw [this] at h2
    cases h2

theorem st_sorted_sub {a b a' b' : Nat} {d : Array α} (hs : SortedIn le2 a b d) (h1 : a ≤ a') (h2 : b' ≤ b) : SortedIn le2 a' b' d := fun i j x1 x2 x3 => hs i j (by omega) x2 (by omega)
theorem st_sorted_congr {a b : Nat} {d d' : Array α} (hs : SortedIn le2 a b d) (h : ∀ k, a ≤ k → k < b → d'[k]! = d[k]!) : SortedIn le2 a b d' := fun i j x1 x2 x3 => by rw [h i x1 (by omega), h j (by omega) x3]; exact hs i j x1 x2 x3
theorem st_join {a m b : Nat} {d : Array α} (h1 : SortedIn le2 a m d) (h2 : SortedIn le2 m b d) (hc : StAc (fun x y => le2 y x = false) a m b d) : SortedIn le2 a b d := fun i j x1 x2 x3 => by
  by_cases e : j < m
  · exact h1 i j x1 x2 e
  · by_cases e2 : i < m
    · exact hc i j x1 e2 (by omega) x3
    · exact h2 i j (by omega) x2 x3

/-! ### One element against many: data[a] into data[a + 1:b], data[m] into data[a:m] -/
theorem st_mono1 {Q : α → α → Prop} (hO : SWO le2) (hT : StTest lt le2 Q) {a b : Nat} {d : Array α} (hs : SortedIn le2 (a + 1) b d) (hc : StAc Q a (a + 1) b d) :
    ∀ k l, a + 1 ≤ k → k ≤ l → l < b → lt d[l]! d[a]! = true → lt d[k]! d[a]! = true := fun k l h1 h2 h3 hp => by
  rw [hT _ _ (hc a k (Nat.le_refl _) (Nat.lt_succ_self _) h1 (by omega))]
  rw [hT _ _ (hc a l (Nat.le_refl _) (Nat.lt_succ_self _) (by omega) h3)] at hp
  exact st_lt_of hO (st_sorted_le hO hs h1 h2 h3) hp
def StSh1 (d : Array α) (a k : Nat) (dk : Array α) : Prop := dk.size = d.size ∧ ∀ l, dk[l]! = if a ≤ l ∧ l < k then d[l + 1]! else if l = k then d[a]! else d[l]!
theorem st_sh1_start (d : Array α) (a : Nat) : StSh1 d a a d := ⟨rfl, fun l => by
  rw [if_neg (by omega)]
  split
  · rename_i e; rw [e]
  · rfl⟩
theorem st_sh1_step {d : Array α} {a k : Nat} {dk : Array α} (h : StSh1 d a k dk) (hak : a ≤ k) (hk : k + 1 < d.size) : StSh1 d a (k + 1) (swp dk k (k + 1)) := by
  refine ⟨by rw [swp_size]; exact h.1, fun l => ?_⟩
  rw [swp_get dk (by rw [h.1]; omega) (by rw [h.1]; exact hk), h.2 k, h.2 (k + 1), h.2 l]
  by_cases e1 : l = k + 1
  · subst e1
    simp
  · by_cases e2 : l = k
    · subst e2
      rw [if_neg (by omega), if_pos rfl, if_neg (by omega), if_neg (by omega), if_pos ⟨hak, by omega⟩]
    · simp only [e1, e2, if_false]
      by_cases e3 : a ≤ l ∧ l < k
      · rw [if_pos e3, if_pos (by omega)]
      · rw [if_neg e3, if_neg (by omega)]
theorem st_sh1_end {Q : α → α → Prop} (hO : SWO le2) (hT : StTest lt le2 Q) {a b i : Nat} {d dk : Array α} (hs : SortedIn le2 (a + 1) b d) (hc : StAc Q a (a + 1) b d)
    (hB : StBs (fun k => lt d[k]! d[a]!) (a + 1) b i i) (h : StSh1 d a (i - 1) dk) : SortedIn le2 a b dk := by
  obtain ⟨b1, _, b3, b4, b5⟩ := hB
  have up : ∀ k, a + 1 ≤ k → k < i → le2 d[k]! d[a]! = true := fun k h1 h2 => by rw [← hT _ _ (hc a k (Nat.le_refl _) (Nat.lt_succ_self _) h1 (by omega))]; exact b4 k h1 h2
  have dn : ∀ k, i ≤ k → k < b → le2 d[k]! d[a]! = false := fun k h1 h2 => by rw [← hT _ _ (hc a k (Nat.le_refl _) (Nat.lt_succ_self _) (by omega) h2)]; exact b5 k h1 h2
  intro l l' h1 h2 h3
  rw [h.2 l, h.2 l']
  by_cases e : l' < i - 1
  · rw [if_pos (by omega), if_pos (by omega)]
    exact hs _ _ (by omega) (by omega) (by omega)
  · by_cases e2 : l' = i - 1
    · rw [if_neg (by omega), if_pos e2, if_pos (by omega)]
      exact hO.asymmA (up _ (by omega) (by omega))
    · rw [if_neg (by omega), if_neg e2]
      by_cases e3 : l < i - 1
      · rw [if_pos (by omega)]
        exact hs _ _ (by omega) (by omega) (by omega)
      · by_cases e4 : l = i - 1
        · rw [if_neg (by omega), if_pos e4]
          exact dn _ (by omega) h3
        · rw [if_neg (by omega), if_neg e4]
          exact hs _ _ (by omega) h2 h3

theorem st_mono2 {Q : α → α → Prop} (hO : SWO le2) (hT : StTest lt le2 Q) {a m : Nat} {d : Array α} (hs : SortedIn le2 a m d) (hc : StAc Q a m (m + 1) d) :
    ∀ k l, a ≤ k → k ≤ l → l < m → (!lt d[m]! d[l]!) = true → (!lt d[m]! d[k]!) = true := fun k l h1 h2 h3 hp => by
  rw [hT _ _ (hc k m h1 (by omega) (Nat.le_refl _) (Nat.lt_succ_self _))]
  rw [hT _ _ (hc l m (by omega) h3 (Nat.le_refl _) (Nat.lt_succ_self _))] at hp
  simp only [Bool.not_eq_true'] at hp ⊢
  -- not m < l, k at most l: not m < k
  exact hO.ntrans _ _ _ hp (st_sorted_le hO hs h1 h2 h3)
def StSh2 (d : Array α) (m k : Nat) (dk : Array α) : Prop := dk.size = d.size ∧ ∀ l, dk[l]! = if k < l ∧ l ≤ m then d[l - 1]! else if l = k then d[m]! else d[l]!
theorem st_sh2_start (d : Array α) (m : Nat) : StSh2 d m m d := ⟨rfl, fun l => by
  rw [if_neg (by omega)]
  split
  · rename_i e; rw [e]
  · rfl⟩
theorem st_sh2_step {d : Array α} {m k : Nat} {dk : Array α} (h : StSh2 d m (k + 1) dk) (hak : k + 1 ≤ m) (hk : m < d.size) : StSh2 d m k (swp dk (k + 1) k) := by
  refine ⟨by rw [swp_size]; exact h.1, fun l => ?_⟩
  rw [swp_get dk (by rw [h.1]; omega) (by rw [h.1]; omega), h.2 k, h.2 (k + 1), h.2 l]
  by_cases e1 : l = k + 1
  · subst e1
    rw [if_neg (by omega), if_pos rfl, if_neg (by omega), if_neg (by omega), if_pos ⟨by omega, hak⟩]
    rfl
  · by_cases e2 : l = k
    · subst e2
      rw [if_pos rfl, if_neg (by omega), if_pos rfl, if_neg (by omega), if_pos rfl]
    · simp only [e1, e2, if_false]
      by_cases e3 : k < l ∧ l ≤ m
      · rw [if_pos e3, if_pos (by omega)]
      · rw [if_neg e3, if_neg (by omega)]
theorem st_sh2_end {Q : α → α → Prop} (hO : SWO le2) (hT : StTest lt le2 Q) {a m i : Nat} {d dk : Array α} (hs : SortedIn le2 a m d) (hc : StAc Q a m (m + 1) d)
    (hB : StBs (fun k => !lt d[m]! d[k]!) a m i i) (h : StSh2 d m i dk) : SortedIn le2 a (m + 1) dk := by
  obtain ⟨b1, _, b3, b4, b5⟩ := hB
  have up : ∀ k, a ≤ k → k < i → le2 d[m]! d[k]! = false := fun k h1 h2 => by rw [← hT _ _ (hc k m h1 (by omega) (Nat.le_refl _) (Nat.lt_succ_self _))]; have := b4 k h1 h2; simpa using this
  have dn : ∀ k, i ≤ k → k < m → le2 d[m]! d[k]! = true := fun k h1 h2 => by rw [← hT _ _ (hc k m (by omega) h2 (Nat.le_refl _) (Nat.lt_succ_self _))]; have := b5 k h1 h2; simpa using this
  intro l l' h1 h2 h3
  rw [h.2 l, h.2 l']
  by_cases e : l' < i
  · rw [if_neg (by omega), if_neg (by omega), if_neg (by omega), if_neg (by omega)]
    exact hs _ _ h1 h2 (by omega)
  · by_cases e2 : l' = i
    · rw [if_neg (by omega), if_pos e2, if_neg (by omega), if_neg (by omega)]
      exact up _ h1 (by omega)
    · rw [if_pos (by omega)]
      by_cases e3 : l < i
      · rw [if_neg (by omega), if_neg (by omega)]
        exact hs _ _ h1 (by omega) (by omega)
      · by_cases e4 : l = i
        · rw [if_neg (by omega), if_pos e4]
          exact hO.asymmA (dn _ (by omega) (by omega))
        · rw [if_pos (by omega)]
          exact hs _ _ (by omega) (by omega) (by omega)

/-! ### Two stretches change places -/
/-- d' is d, the stretches [a, m) and [m, b) having changed places. -/
def StRot (a m b : Nat) (d d' : Array α) : Prop := d'.size = d.size ∧ ∀ k, d'[k]! = if k < a ∨ b ≤ k then d[k]! else if k < a + (b - m) then d[k + (m - a)]! else d[k - (b - m)]!
/-- .. n places from a on, and n from b on. -/
def StSwr (a b n : Nat) (d d' : Array α) : Prop := d'.size = d.size ∧ ∀ k, d'[k]! = if a ≤ k ∧ k < a + n then d[k + (b - a)]! else if b ≤ k ∧ k < b + n then d[k - (b - a)]! else d[k]!
theorem st_swr_start (a b : Nat) (d : Array α) : StSwr a b 0 d d := ⟨rfl, fun k => by rw [if_neg (by omega), if_neg (by omega)]⟩
theorem st_swr_step {a b n : Nat} {d d' : Array α} (h : StSwr a b n d d') (hab : a + n < b) (hb : b + n < d.size) : StSwr a b (n + 1) d (swp d' (a + n) (b + n)) := by
  refine ⟨by rw [swp_size]; exact h.1, fun k => ?_⟩
  rw [swp_get d' (by rw [h.1]; omega) (by rw [h.1]; omega), h.2 (a + n), h.2 (b + n), h.2 k]
  by_cases e1 : k = b + n
  · subst e1
    rw [if_pos rfl, if_neg (by omega), if_neg (by omega), if_neg (by omega), if_pos (by omega)]
    congr 1
    omega
  · rw [if_neg e1]
    by_cases e2 : k = a + n
    · subst e2
      rw [if_pos rfl, if_neg (by omega), if_neg (by omega), if_pos (by omega)]
      congr 1
      omega
    · rw [if_neg e2]
      by_cases e3 : a ≤ k ∧ k < a + n
      · rw [if_pos e3, if_pos (by omega)]
      · rw [if_neg e3]
        by_cases e4 : b ≤ k ∧ k < b + n
        · rw [if_pos e4, if_neg (by omega), if_pos (by omega)]
        · rw [if_neg e4, if_neg (by omega), if_neg (by omega)]
/-- i > j: the first j of the left ones change places with the j of the right; the rest is the same task, smaller. -/
theorem st_rot_left {m i j : Nat} {d d' d'' : Array α} (hji : j < i) (hi : i ≤ m) (h1 : StSwr (m - i) m j d d') (h2 : StRot (m - i + j) m (m + j) d' d'') : StRot (m - i) m (m + j) d d'' := by
  refine ⟨h2.1.trans h1.1, fun k => ?_⟩
  rw [h2.2 k]
  by_cases e : k < m - i ∨ m + j ≤ k
  · rw [if_pos (by omega), if_pos e, h1.2, if_neg (by omega), if_neg (by omega)]
  · rw [if_neg e]
    by_cases e1 : k < m - i + j
    · rw [if_pos (Or.inl e1), if_pos (show k < m - i + (m + j - m) by omega), h1.2, if_pos (by omega)]
    · rw [if_neg (show ¬ (k < m - i + j ∨ m + j ≤ k) by omega), if_neg (show ¬ k < m - i + (m + j - m) by omega)]
      by_cases e2 : k < m - i + j + j
      · rw [if_pos (by omega), h1.2, if_neg (by omega), if_pos (by omega)]
        congr 1
        omega
      · rw [if_neg (by omega), h1.2, if_neg (by omega), if_neg (by omega)]
/-- i < j. -/
theorem st_rot_right {m i j : Nat} {d d' d'' : Array α} (hij : i < j) (hi : i ≤ m) (h1 : StSwr (m - i) (m + j - i) i d d') (h2 : StRot (m - i) m (m + j - i) d' d'') : StRot (m - i) m (m + j) d d'' := by
  refine ⟨h2.1.trans h1.1, fun k => ?_⟩
  rw [h2.2 k]
  by_cases e : k < m - i ∨ m + j ≤ k
  · rw [if_pos (by omega), if_pos e, h1.2, if_neg (by omega), if_neg (by omega)]
  · rw [if_neg e]
    by_cases e1 : m + j - i ≤ k
    · rw [if_pos (by omega), if_neg (by omega), h1.2, if_neg (by omega), if_pos (by omega)]
      congr 1
      omega
    · rw [if_neg (by omega)]
      by_cases e2 : k < m - i + (m + j - i - m)
      · rw [if_pos e2, if_pos (by omega), h1.2]
        rw [if_neg (by omega), if_neg (by omega)]
      · rw [if_neg e2, if_pos (by omega), h1.2, if_pos (by omega)]
        congr 1
        omega
theorem st_rot_same {m i : Nat} {d d' : Array α} (hi : i ≤ m) (h1 : StSwr (m - i) m i d d') : StRot (m - i) m (m + i) d d' := by
  refine ⟨h1.1, fun k => ?_⟩
  rw [h1.2 k]
  by_cases e : k < m - i ∨ m + i ≤ k
  · rw [if_pos e, if_neg (by omega), if_neg (by omega)]
  · rw [if_neg e]
    by_cases e1 : k < m
    · rw [if_pos (by omega), if_pos (by omega)]
    · rw [if_neg (by omega), if_pos (by omega), if_neg (by omega)]
      congr 1
      omega
theorem st_rot_none {a m b : Nat} {d : Array α} (h : a = m ∨ m = b) (h1 : a ≤ m) (h2 : m ≤ b) : StRot a m b d d := ⟨rfl, fun k => by
  by_cases e : k < a ∨ b ≤ k
  · rw [if_pos e]
  · rw [if_neg e]
    rcases h with rfl | rfl
    · rw [if_pos (by omega)]
      congr 1
      omega
    · rw [if_neg (by omega)]
      congr 1
      omega⟩

/-! ### The merge's middle -/
/-- Where the search goes. -/
def stLo (a m b : Nat) : Nat := if m > (a + b) / 2 then (a + b) / 2 + m - b else a
def stHi (a m b : Nat) : Nat := if m > (a + b) / 2 then (a + b) / 2 else m
def stP (lt : α → α → Bool) (a m b : Nat) (d : Array α) (c : Nat) : Bool := !lt d[(a + b) / 2 + m - 1 - c]! d[c]!
theorem st_lo_hi {a m b : Nat} (h1 : a < m) (h2 : m < b) : a ≤ stLo a m b ∧ stLo a m b ≤ stHi a m b ∧ stHi a m b ≤ m ∧ stHi a m b ≤ (a + b) / 2 := by
  unfold stLo stHi
  split <;> omega
theorem st_place {a m b c : Nat} (h1 : a < m) (h2 : m < b) (hc : stLo a m b ≤ c) (hc2 : c < stHi a m b) : a ≤ c ∧ c < m ∧ m ≤ (a + b) / 2 + m - 1 - c ∧ (a + b) / 2 + m - 1 - c < b := by
  unfold stLo at hc
  unfold stHi at hc2
  split at hc <;> split at hc2 <;> omega
theorem st_mono3 {Q : α → α → Prop} (hO : SWO le2) (hT : StTest lt le2 Q) {a m b : Nat} {d : Array α} (ham : a < m) (hmb : m < b) (h1 : SortedIn le2 a m d) (h2 : SortedIn le2 m b d) (hc : StAc Q a m b d) :
    ∀ k l, stLo a m b ≤ k → k ≤ l → l < stHi a m b → stP lt a m b d l = true → stP lt a m b d k = true := fun k l hk hkl hl hp => by
  have pk := st_place ham hmb hk (by omega)
  have pl := st_place ham hmb (by omega) hl
  unfold stP at hp ⊢
  rw [hT _ _ (hc _ _ pk.1 pk.2.1 pk.2.2.1 pk.2.2.2)]
  rw [hT _ _ (hc _ _ pl.1 pl.2.1 pl.2.2.1 pl.2.2.2)] at hp
  simp only [Bool.not_eq_true'] at hp ⊢
  -- d[p-k] not less than d[p-l], d[p-l] not less than d[l], d[l] not less than d[k]
  exact hO.ntrans _ _ _ (hO.ntrans _ _ _ (st_sorted_le hO h2 pl.2.2.1 (by omega) pk.2.2.2) hp) (st_sorted_le hO h1 pk.1 hkl pl.2.1)
/-- Behind the rotation. -/
structure StMid (le2 : α → α → Bool) (Q : α → α → Prop) (a mid s e b : Nat) (d : Array α) : Prop where
  l1 : SortedIn le2 a s d
  l2 : SortedIn le2 s mid d
  lq : StAc Q a s mid d
  r1 : SortedIn le2 mid e d
  r2 : SortedIn le2 e b d
  rq : StAc Q mid e b d
  cr : StAc (fun x y => le2 y x = false) a mid b d
theorem st_mid {Q : α → α → Prop} (hO : SWO le2) (hT : StTest lt le2 Q) {a m b s : Nat} {d d' : Array α} (ham : a < m) (hmb : m < b) (h1 : SortedIn le2 a m d) (h2 : SortedIn le2 m b d) (hc : StAc Q a m b d)
    (hB : StBs (stP lt a m b d) (stLo a m b) (stHi a m b) s s) (hR : StRot s m ((a + b) / 2 + m - s) d d') : StMid le2 Q a ((a + b) / 2) s ((a + b) / 2 + m - s) b d' := by
  obtain ⟨b1, _, b3, b4, b5⟩ := hB
  have hlh := st_lo_hi ham hmb
  -- where each stretch comes from
  have g1 : ∀ k, k < s → d'[k]! = d[k]! := fun k hk => by rw [hR.2, if_pos (by omega)]
  have g2 : ∀ k, s ≤ k → k < (a + b) / 2 → d'[k]! = d[k + (m - s)]! := fun k hk hk2 => by rw [hR.2, if_neg (by omega), if_pos (by omega)]
  have g3 : ∀ k, (a + b) / 2 ≤ k → k < (a + b) / 2 + m - s → d'[k]! = d[k - ((a + b) / 2 - s)]! := fun k hk hk2 => by
    rw [hR.2, if_neg (by omega), if_neg (by omega)]
    congr 1
    omega
  have g4 : ∀ k, (a + b) / 2 + m - s ≤ k → d'[k]! = d[k]! := fun k hk => by rw [hR.2, if_pos (by omega)]
  have eb : (a + b) / 2 + m - s ≤ b := by unfold stLo at b1; split at b1 <;> omega
  have as' : a ≤ s := by omega
  -- ahead of the search's end, and behind it
  have up : ∀ i j, a ≤ i → i < s → (a + b) / 2 + m - s ≤ j → j < b → le2 d[j]! d[i]! = false := fun i j x1 x2 x3 x4 => by
    have q1 : stLo a m b ≤ s - 1 := by
      unfold stLo at b1 ⊢
      split at b1 <;> rename_i e <;> simp only [e, if_true, if_false] <;> omega
    have := b4 (s - 1) q1 (by omega)
    have pl := st_place ham hmb q1 (by omega)
    unfold stP at this
    rw [hT _ _ (hc _ _ pl.1 pl.2.1 pl.2.2.1 pl.2.2.2)] at this
    simp only [Bool.not_eq_true'] at this
    exact hO.ntrans _ _ _ (hO.ntrans _ _ _ (st_sorted_le hO h2 (by omega) (by omega) x4) this) (st_sorted_le hO h1 x1 (by omega) (by omega))
  have dn : ∀ j k, m ≤ j → j < (a + b) / 2 + m - s → s ≤ k → k < m → le2 d[k]! d[j]! = false := fun j k x1 x2 x3 x4 => by
    have q1 : s < stHi a m b := by
      unfold stHi at b3 ⊢
      split at b3 <;> rename_i e <;> simp only [e, if_true, if_false] <;> omega
    have := b5 s (Nat.le_refl _) q1
    have pl := st_place ham hmb b1 q1
    unfold stP at this
    rw [hT _ _ (hc _ _ pl.1 pl.2.1 pl.2.2.1 pl.2.2.2)] at this
    simp only [Bool.not_eq_false'] at this
    exact hO.ntrans _ _ _ (hO.ntrans _ _ _ (st_sorted_le hO h1 as' x3 x4) (hO.asymmA this)) (st_sorted_le hO h2 x1 (by omega) (by omega))
  refine ⟨?_, ?_, ?_, ?_, ?_, ?_, ?_⟩
  · intro i j x1 x2 x3
    rw [g1 i (by omega), g1 j x3]
    exact h1 i j x1 x2 (by omega)
  · intro i j x1 x2 x3
    rw [g2 i x1 (by omega), g2 j (by omega) x3]
    exact h2 _ _ (by omega) (by omega) (by omega)
  · intro i j x1 x2 x3 x4
    rw [g1 i x2, g2 j x3 x4]
    exact hc _ _ x1 (by omega) (by omega) (by omega)
  · intro i j x1 x2 x3
    rw [g3 i x1 (by omega), g3 j (by omega) x3]
    exact h1 _ _ (by omega) (by omega) (by omega)
  · intro i j x1 x2 x3
    rw [g4 i x1, g4 j (by omega)]
    exact h2 _ _ (by omega) x2 x3
  · intro i j x1 x2 x3 x4
    rw [g3 i x1 x2, g4 j x3]
    exact hc _ _ (by omega) (by omega) (by omega) x4
  · intro i j x1 x2 x3 x4
    show le2 d'[j]! d'[i]! = false
    by_cases e1 : i < s
    · rw [g1 i e1]
      by_cases e2 : j < (a + b) / 2 + m - s
      · rw [g3 j x3 e2]
        exact h1 _ _ x1 (by omega) (by omega)
      · rw [g4 j (by omega)]
        exact up _ _ x1 e1 (by omega) x4
    · rw [g2 i (by omega) x2]
      by_cases e2 : j < (a + b) / 2 + m - s
      · rw [g3 j x3 e2]
        exact dn _ _ (by omega) (by omega) (by omega) (by omega)
      · rw [g4 j (by omega)]
        exact h2 _ _ (by omega) (by omega) x4
/-- What a permutation of a stretch leaves of what holds across. -/
theorem st_ac_left {R : α → α → Prop} {a m b : Nat} {d d' : Array α} (h : StAc R a m b d) (hm : m ≤ d.size) (hP : PermIn a m d d') : StAc R a m b d' := fun i j x1 x2 x3 x4 => by
  rw [hP.2.1 j (Or.inr x3)]
  exact permIn_all d d' a m (fun x => R x d[j]!) hm hP (fun k y1 y2 => h k j y1 y2 x3 x4) i x1 x2
theorem st_ac_right {R : α → α → Prop} {a m b : Nat} {d d' : Array α} (h : StAc R a m b d) (hm : b ≤ d.size) (hP : PermIn m b d d') : StAc R a m b d' := fun i j x1 x2 x3 x4 => by
  rw [hP.2.1 i (Or.inl x2)]
  exact permIn_all d d' m b (fun x => R d[i]! x) hm hP (fun k y1 y2 => h i k x1 x2 y1 y2) j x3 x4
theorem st_sorted_other {a b x y : Nat} {d d' : Array α} (hs : SortedIn le2 a b d) (hP : PermIn x y d d') (h : b ≤ x ∨ y ≤ a) : SortedIn le2 a b d' := st_sorted_congr hs (fun k h1 h2 => hP.2.1 k (by omega))
/-- A half that wants no merge: one of its stretches is empty. -/
theorem st_half {a s m : Nat} {d : Array α} (h1 : SortedIn le2 a s d) (h2 : SortedIn le2 s m d) (h : s ≤ a ∨ m ≤ s) : SortedIn le2 a m d := by
  rcases h with h | h
  · exact st_sorted_sub h2 h (Nat.le_refl _)
  · exact st_sorted_sub h1 (Nat.le_refl _) h

/-! ### The insertion sort of a stretch whose elements stand by Q, each behind all ahead of it -/
theorem st_ins_inner {lt le2 : α → α → Bool} (a : Nat) : ∀ (j : Nat) (d : Array α), j < d.size → (∀ k, a ≤ k → k < j → lt d[j]! d[k]! = le2 d[j]! d[k]!) → insInner lt a j d = insInner le2 a j d
  | 0, d, _, _ => by rw [insInner, insInner]
  | j + 1, d, hj, h => by
    rw [insInner, insInner]
    by_cases e : a < j + 1
    · rw [h j (by omega) (by omega)]
      by_cases e2 : (decide (j + 1 > a) && le2 d[j + 1]! d[j]!) = true
      · rw [if_pos e2, if_pos e2]
        refine st_ins_inner a j _ (by rw [swp_size]; omega) (fun k x1 x2 => ?_)
        rw [swp_get d hj (by omega), swp_get d hj (by omega), if_pos rfl, if_neg (by omega), if_neg (by omega)]
        exact h k x1 (by omega)
      · rw [if_neg e2, if_neg e2]
    · have : ¬ (j + 1 > a) := by omega
      simp [this]
theorem st_inner_perm {le2 : α → α → Bool} (a i : Nat) (hai : a ≤ i) : ∀ (j : Nat) (d : Array α), j ≤ i → i < d.size → PermIn a (i + 1) d (insInner le2 a j d)
  | 0, d, _, _ => by rw [insInner]; exact permIn_refl _ _ _
  | j + 1, d, hj, hd => by
    rw [insInner]
    split
    · rename_i e
      have ea : a < j + 1 := by simp only [Bool.and_eq_true, decide_eq_true_eq] at e; exact e.1
      exact permIn_trans _ _ _ _ _ (swp_permIn d a (i + 1) (j + 1) j (by omega) (by omega) (by omega) (by omega) (by omega)) (st_inner_perm a i hai j _ (by omega) (by rw [swp_size]; exact hd))
    · exact permIn_refl _ _ _
theorem st_outer_go (lt : α → α → Bool) (a b i : Nat) (d : Array α) (h : i < b) : insOuter lt a b i d = insOuter lt a b (i + 1) (insInner lt a i d) := by rw [insOuter, if_pos h]
theorem st_outer_stop (lt : α → α → Bool) (a b i : Nat) (d : Array α) (h : ¬ i < b) : insOuter lt a b i d = d := by rw [insOuter, if_neg h]
theorem st_ins_outer (a b : Nat) : ∀ (n i : Nat) (d : Array α), b - i ≤ n → a ≤ i → b ≤ d.size → (∀ k l, a ≤ k → k < l → i ≤ l → l < b → lt d[l]! d[k]! = le2 d[l]! d[k]!) → insOuter lt a b i d = insOuter le2 a b i d
  | n, i, d, hn, hai, hb, h => by
    by_cases e : i < b
    · rw [st_outer_go lt a b i d e, st_outer_go le2 a b i d e, st_ins_inner a i d (by omega) (fun k x1 x2 => h k i x1 x2 (Nat.le_refl _) e)]
      cases n with
      | zero => omega
      | succ n =>
        obtain ⟨sz, ot, pp⟩ : PermIn a (i + 1) d (insInner le2 a i d) := st_inner_perm a i hai i d (Nat.le_refl _) (by omega)
        refine st_ins_outer a b n (i + 1) _ (by omega) (by omega) (by rw [sz]; exact hb) (fun k l x1 x2 x3 x4 => ?_)
        rw [ot l (Or.inr x3)]
        by_cases e2 : i + 1 ≤ k
        · rw [ot k (Or.inr e2)]
          exact h k l x1 x2 (by omega) x4
        · exact permIn_all d _ a (i + 1) (fun x => lt d[l]! x = le2 d[l]! x) (by omega) ⟨sz, ot, pp⟩ (fun q y1 y2 => h q l y1 (by omega) (by omega) x4) k x1 (by omega)
    · rw [st_outer_stop lt a b i d e, st_outer_stop le2 a b i d e]
theorem st_ins {Q : α → α → Prop} (hS : SWO le2) (hT : StTest lt le2 Q) {a b : Nat} {d : Array α} (hab : a ≤ b) (hb : b ≤ d.size) (hq : ∀ k l, a ≤ k → k < l → l < b → Q d[k]! d[l]!) :
    PermIn a b d (insertionSort lt d a b) ∧ SortedIn le2 a b (insertionSort lt d a b) := by
  have : insertionSort lt d a b = insertionSort le2 d a b := st_ins_outer a b (b - (a + 1)) (a + 1) d (Nat.le_refl _) (Nat.le_succ _) hb (fun k l x1 x2 _ x4 => hT _ _ (hq k l x1 x2 x4))
  rw [this]
  exact insertionSort_holds hS d a b hab hb

/-! ### Blocks -/
/-- Block q of size s is sorted, and what lies there came from there. -/
def StBlk (le2 : α → α → Bool) (o : Array α) (s n q : Nat) (d : Array α) : Prop :=
  SortedIn le2 (q * s) (min (q * s + s) n) d ∧ ∀ i, q * s ≤ i → i < min (q * s + s) n → ∃ k, q * s ≤ k ∧ k < min (q * s + s) n ∧ d[i]! = o[k]!
theorem st_blk_other {o : Array α} {s n q x y : Nat} {d d' : Array α} (h : StBlk le2 o s n q d) (hP : PermIn x y d d') (hd : min (q * s + s) n ≤ x ∨ y ≤ q * s) : StBlk le2 o s n q d' :=
  ⟨st_sorted_other h.1 hP hd, fun i h1 h2 => by rw [hP.2.1 i (by omega)]; exact h.2 i h1 h2⟩
/-- Blocks below a, and above it. -/
theorem st_mul_lt {q Q s : Nat} (h : q < Q) : q * s + s ≤ Q * s := by
  have := Nat.mul_le_mul_right s (show q + 1 ≤ Q from h)
  rw [Nat.succ_mul] at this
  exact this
theorem st_mul_gt {q Q s : Nat} (h : Q < q) : Q * s + s ≤ q * s := st_mul_lt h
/-- What a merge of blocks 2Q and 2Q + 1 wants. -/
theorem st_blk_ac {Q : α → α → Prop} {o d : Array α} {s n q : Nat} (hq : ∀ k l, k < l → l < n → Q o[k]! o[l]!) (h1 : StBlk le2 o s n (2 * q) d) (h2 : StBlk le2 o s n (2 * q + 1) d) : StAc Q (2 * q * s) (2 * q * s + s) (min (2 * q * s + 2 * s) n) d := fun i j x1 x2 x3 x4 => by
  have e : (2 * q + 1) * s = 2 * q * s + s := by rw [Nat.add_mul, Nat.one_mul]
  obtain ⟨_, g1⟩ := h1
  obtain ⟨_, g2⟩ := h2
  rw [e] at g2
  obtain ⟨k, k1, k2, k3⟩ := g1 i x1 (by omega)
  obtain ⟨l, l1, l2, l3⟩ := g2 j x3 (by omega)
  rw [k3, l3]
  exact hq k l (by omega) (by omega)
/-- The two blocks are one. -/
theorem st_blk_two {o d d' : Array α} {s n q : Nat} (hn : n ≤ d.size) (h1 : StBlk le2 o s n (2 * q) d) (h2 : StBlk le2 o s n (2 * q + 1) d) (hs : SortedIn le2 (2 * q * s) (min (2 * q * s + 2 * s) n) d') (hP : PermIn (2 * q * s) (min (2 * q * s + 2 * s) n) d d') : StBlk le2 o (2 * s) n q d' := by
  have e : (2 * q + 1) * s = 2 * q * s + s := by rw [Nat.add_mul, Nat.one_mul]
  have e2 : q * (2 * s) = 2 * q * s := by rw [← Nat.mul_assoc, Nat.mul_comm q 2]
  obtain ⟨_, g1⟩ := h1
  obtain ⟨_, g2⟩ := h2
  rw [e] at g2
  unfold StBlk
  rw [e2]
  refine ⟨hs, fun i x1 x2 => ?_⟩
  refine permIn_all d d' _ _ (fun x => ∃ k, 2 * q * s ≤ k ∧ k < min (2 * q * s + 2 * s) n ∧ x = o[k]!) (by omega) hP (fun i y1 y2 => ?_) i x1 x2
  by_cases c : i < 2 * q * s + s
  · obtain ⟨k, k1, k2, k3⟩ := g1 i y1 (by omega)
    exact ⟨k, k1, by omega, k3⟩
  · obtain ⟨k, k1, k2, k3⟩ := g2 i (by omega) (by omega)
    exact ⟨k, by omega, by omega, k3⟩
/-- A last block without a fellow is a greater one already. -/
theorem st_blk_alone {o d : Array α} {s n q : Nat} (h1 : StBlk le2 o s n (2 * q) d) (hn : n ≤ 2 * q * s + s) : StBlk le2 o (2 * s) n q d := by
  have e2 : q * (2 * s) = 2 * q * s := by rw [← Nat.mul_assoc, Nat.mul_comm q 2]
  unfold StBlk at h1 ⊢
  rw [e2, show min (2 * q * s + 2 * s) n = min (2 * q * s + s) n by omega]
  exact h1
theorem st_blk_none {o d : Array α} {s n q : Nat} (hn : n ≤ q * s) : StBlk le2 o s n q d := ⟨fun i j x1 x2 x3 => by omega, fun i x1 x2 => by omega⟩
theorem st_blk_all {o d : Array α} {s n : Nat} (h : StBlk le2 o s n 0 d) (hn : n ≤ s) : SortedIn le2 0 n d := by
  have := h.1
  rw [Nat.zero_mul, show min (0 + s) n = n by omega] at this
  exact this
/-! ### The two phases -/
theorem st_ph1 {Q : α → α → Prop} (hS : SWO le2) (hT : StTest lt le2 Q) {o dk : Array α} {s n q b : Nat} (hq : ∀ k l, k < l → l < n → Q o[k]! o[l]!) (hn : dk.size = n) (hb : b = min (q * s + s) n) (hle : q * s ≤ n)
    (h1 : ∀ p, p < q → StBlk le2 o s n p dk) (h2 : ∀ i, q * s ≤ i → dk[i]! = o[i]!) :
    (∀ p, p < q + 1 → StBlk le2 o s n p (insertionSort lt dk (q * s) b)) ∧ (∀ i, b ≤ i → (insertionSort lt dk (q * s) b)[i]! = o[i]!) ∧ PermIn 0 n dk (insertionSort lt dk (q * s) b) := by
  have hab : q * s ≤ b := by omega
  obtain ⟨hP, hs⟩ := st_ins hS hT (d := dk) hab (by omega) (fun k l x1 x2 x3 => by rw [h2 k x1, h2 l (by omega)]; exact hq k l x2 (by omega))
  refine ⟨fun p hp => ?_, fun i hi => by rw [hP.2.1 i (Or.inr hi)]; exact h2 i (by omega), permIn_mono _ _ _ _ _ _ (Nat.zero_le _) (by omega) (by omega) hP⟩
  by_cases e : p < q
  · have := st_mul_lt (s := s) e
    exact st_blk_other (h1 p e) hP (Or.inl (by omega))
  · have e2 : p = q := by omega
    subst e2
    refine ⟨by rw [← hb]; exact hs, fun i x1 x2 => ?_⟩
    rw [← hb] at x2 ⊢
    exact permIn_all dk _ _ _ (fun x => ∃ k, p * s ≤ k ∧ k < b ∧ x = o[k]!) (by omega) hP (fun i y1 y2 => ⟨i, y1, y2, h2 i y1⟩) i x1 x2
theorem st_ph1_end {o d : Array α} {s n q : Nat} (h : ∀ p, p < q + 1 → StBlk le2 o s n p d) (hn : n ≤ q * s + s) : ∀ p, StBlk le2 o s n p d := fun p => by
  by_cases e : p < q + 1
  · exact h p e
  · have := st_mul_lt (s := s) (show q < p by omega)
    exact st_blk_none (by omega)
theorem st_ph2_pre {Q : α → α → Prop} {o dk : Array α} {s n q : Nat} (hq : ∀ k l, k < l → l < n → Q o[k]! o[l]!) (h : ∀ p, 2 * q ≤ p → StBlk le2 o s n p dk) :
    SortedIn le2 (2 * q * s) (min (2 * q * s + s) n) dk ∧ SortedIn le2 (2 * q * s + s) (min (2 * q * s + 2 * s) n) dk ∧ StAc Q (2 * q * s) (2 * q * s + s) (min (2 * q * s + 2 * s) n) dk := by
  have e : (2 * q + 1) * s = 2 * q * s + s := by rw [Nat.add_mul, Nat.one_mul]
  have g1 := h (2 * q) (Nat.le_refl _)
  have g2 := h (2 * q + 1) (by omega)
  refine ⟨g1.1, ?_, st_blk_ac hq g1 g2⟩
  have := g2.1
  rw [e, show 2 * q * s + s + s = 2 * q * s + 2 * s by omega] at this
  exact this
theorem st_ph2_step {o dk d2 : Array α} {s n q : Nat} (hn : n ≤ dk.size) (h1 : ∀ p, p < q → StBlk le2 o (2 * s) n p dk) (h2 : ∀ p, 2 * q ≤ p → StBlk le2 o s n p dk) (hs : SortedIn le2 (2 * q * s) (min (2 * q * s + 2 * s) n) d2) (hP : PermIn (2 * q * s) (min (2 * q * s + 2 * s) n) dk d2) :
    (∀ p, p < q + 1 → StBlk le2 o (2 * s) n p d2) ∧ (∀ p, 2 * (q + 1) ≤ p → StBlk le2 o s n p d2) := by
  have e2 : q * (2 * s) = 2 * q * s := by rw [← Nat.mul_assoc, Nat.mul_comm q 2]
  refine ⟨fun p hp => ?_, fun p hp => ?_⟩
  · by_cases e : p < q
    · have := st_mul_lt (s := 2 * s) e
      exact st_blk_other (h1 p e) hP (Or.inl (by omega))
    · have e3 : p = q := by omega
      subst e3
      exact st_blk_two hn (h2 _ (Nat.le_refl _)) (h2 _ (by omega)) hs hP
  · have e4 : (2 * q + 2) * s = 2 * q * s + 2 * s := by rw [Nat.add_mul]
    have e5 : (2 * q + 2) * s ≤ p * s := Nat.mul_le_mul_right s (by omega)
    exact st_blk_other (h2 p (by omega)) hP (Or.inr (by omega))
theorem st_ph2_alone {o d : Array α} {s n q : Nat} (h1 : ∀ p, p < q → StBlk le2 o (2 * s) n p d) (h2 : ∀ p, 2 * q ≤ p → StBlk le2 o s n p d) (hn : n ≤ 2 * q * s + s) : ∀ p, p < q + 1 → StBlk le2 o (2 * s) n p d := fun p hp => by
  by_cases e : p < q
  · exact h1 p e
  · have e3 : p = q := by omega
    subst e3
    exact st_blk_alone (h2 _ (Nat.le_refl _)) hn
theorem st_ph2_end {o d : Array α} {s n q : Nat} (h : ∀ p, p < q + 1 → StBlk le2 o (2 * s) n p d) (hn : n ≤ 2 * q * s + 2 * s) : ∀ p, StBlk le2 o (2 * s) n p d :=
  st_ph1_end h (by rw [show q * (2 * s) = 2 * q * s by rw [← Nat.mul_assoc, Nat.mul_comm q 2]]; exact hn)
end Go.Proofs.Ytbhccjoodlldbaa.C

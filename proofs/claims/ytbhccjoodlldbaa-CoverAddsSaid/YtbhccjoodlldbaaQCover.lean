/- What was done of words, and how often: the program's tell, Parts and Add as plain functions. -/
import Derived.Test.YtbhccjoodlldbaaPx1
import Derived.Test.YtbhccjoodlldbaaPx2
import Derived.Test.YtbhccjoodlldbaaPx5
import Derived.Test.YtbhccjoodlldbaaPx6
import Derived.Test.YtbhccjoodlldbaaPx7
import Derived.Test.YtbhccjoodlldbaaPx8
namespace Go.Proofs.Ytbhccjoodlldbaa.Q
set_option linter.unusedSimpArgs false
set_option linter.unusedVariables false
open Go Go.RowKit Go.Proofs.Ytbhccjoodlldbaa.P Go.Proofs.Ytbhccjoodlldbaa.C Go.Proofs.YtbhccjoodlldbaaW.PrintWords Go.Proofs.YtbhccjoodlldbaaW.PrintLast Go.Proofs.YtbhccjoodlldbaaW.PrintMore
theorem co_wrap {i : Int} (h0 : -1000000000000 ≤ i) (h : i ≤ 1000000000000) : wrap64 i = i := by unfold wrap64; omega
theorem co_out (v : List Int) (i : Nat) (h : v.length ≤ i) : rd v (i : Int) = 0 := by
  unfold rd; rw [Int.toNat_natCast, List.getD_eq_getElem?_getD, List.getElem?_eq_none h]; rfl
theorem co_set (xs : List Int) (j i : Nat) (v : Int) (hj : j < xs.length) : rd (xs.set j v) (i : Int) = if i = j then v else rd xs (i : Int) := by
  unfold rd
  rw [Int.toNat_natCast, List.getD_eq_getElem?_getD, List.getD_eq_getElem?_getD, List.getElem?_set]
  by_cases e : j = i
  · subst e; rw [if_pos rfl, if_pos hj, if_pos rfl]; rfl
  · rw [if_neg e, if_neg (fun x => e x.symm)]
/-- Of so many words from one on: how many were done, how often all. -/
def co_cnt (v : List Int) : Nat → Nat → Int × Int
  | 0, _ => (0, 0)
  | d + 1, i => if rd v (i : Int) > 0 then ((co_cnt v d (i + 1)).1 + 1, (co_cnt v d (i + 1)).2 + rd v (i : Int)) else co_cnt v d (i + 1)
theorem co_cnt_out (v : List Int) : ∀ d i, v.length ≤ i → co_cnt v d i = (0, 0)
  | 0, _, _ => rfl
  | d + 1, i, h => by rw [co_cnt, co_out v i h, if_neg (by decide)]; exact co_cnt_out v d (i + 1) (by omega)
theorem co_cnt_bd (v : List Int) (hv : ∀ i : Nat, rd v (i : Int) ≤ 2000000) : ∀ d i, 0 ≤ (co_cnt v d i).1 ∧ (co_cnt v d i).1 ≤ d ∧ 0 ≤ (co_cnt v d i).2 ∧ (co_cnt v d i).2 ≤ 2000000 * d
  | 0, _ => by simp [co_cnt]
  | d + 1, i => by
    have ih := co_cnt_bd v hv d (i + 1)
    have h := hv i
    rw [co_cnt]
    split
    · simp only; omega
    · omega
/-- Visits that are tried. -/
structure CoV (v : List Int) : Prop where
  len : v.length ≤ 300
  top : ∀ i : Nat, rd v (i : Int) ≤ 2000000
  low : ∀ i : Nat, -2000000 ≤ rd v (i : Int)
theorem co_tell (v : List Int) (hv : CoV v) (nm : ByteArray) (from_ words : Int) (hf : -1000000 ≤ from_ ∧ from_ ≤ 1000000) (hw : -1000000 ≤ words ∧ words ≤ 1000000) (W : Int) (d : Nat) :
    ∀ (k i : Nat) (dn tm : Int), (min (from_ + words) 300 - (i : Int)).toNat = d → 2 * d + 5 < k → 0 ≤ dn → dn ≤ 300 - d → 0 ≤ tm → tm ≤ 600000000 - 2000000 * d → d ≤ 300 →
      cover_tell.l0 k v from_ words (i : Int) nm W dn tm = some (nm, W, dn + (co_cnt v d i).1, tm + (co_cnt v d i).2) := by
  have hl := hv.len
  induction d with
  | zero =>
    intro k i dn tm hd hk h1 h2 h3 h4 h5
    obtain ⟨k, rfl⟩ : ∃ m, k = m + 2 := ⟨k - 2, by omega⟩
    simp only [cover_tell.l0]
    rw [co_wrap (by omega) (by omega)]
    by_cases c : (i : Int) < from_ + words
    · rw [if_pos c]
      simp only [cover_tell.j1]
      rw [decide_eq_false (by omega), if_neg (by decide)]
      simp [co_cnt]
    · rw [if_neg c]
      simp only [cover_tell.j1, Bool.false_eq_true, if_false]
      simp [co_cnt]
  | succ d ih =>
    intro k i dn tm hd hk h1 h2 h3 h4 h5
    obtain ⟨k, rfl⟩ : ∃ m, k = m + 2 := ⟨k - 2, by omega⟩
    simp only [cover_tell.l0]
    rw [co_wrap (by omega) (by omega), if_pos (by omega)]
    simp only [cover_tell.j1]
    have ht := hv.top i
    have hlo := hv.low i
    by_cases c : (i : Int) < (v.length : Int)
    · rw [decide_eq_true c, if_pos rfl, if_pos (by omega), if_pos c, co_cnt, show wrap64 ((i : Int) + 1) = ((i + 1 : Nat) : Int) by unfold wrap64; omega]
      by_cases p : rd v (i : Int) > 0
      · rw [if_pos p, if_pos p, co_wrap (by omega) (by omega), co_wrap (by omega) (by omega), ih k (i + 1) _ _ (by omega) (by omega) (by omega) (by omega) (by omega) (by omega) (by omega)]
        simp only
        rw [show dn + 1 + (co_cnt v d (i + 1)).1 = dn + ((co_cnt v d (i + 1)).1 + 1) by omega, show tm + rd v (i : Int) + (co_cnt v d (i + 1)).2 = tm + ((co_cnt v d (i + 1)).2 + rd v (i : Int)) by omega]
      · rw [if_neg p, if_neg p]
        exact ih k (i + 1) dn tm (by omega) (by omega) h1 (by omega) h3 (by omega) (by omega)
    · rw [decide_eq_false c, if_neg (by decide), co_cnt_out v (d + 1) i (by omega)]
      simp
def co_lo (f : Int) : Nat := (mx 0 f).toNat
def co_d (f w : Int) : Nat := (min (f + w) 300 - (mx 0 f)).toNat
def co_tl (v : List Int) (f w : Int) : Int × Int := co_cnt v (co_d f w) (co_lo f)
theorem co_Tell (v : List Int) (hv : CoV v) (nm : ByteArray) (f w : Int) (hf : -1000000 ≤ f ∧ f ≤ 1000000) (hw : -1000000 ≤ w ∧ w ≤ 1000000) (k : Nat) (hk : 1000 < k) :
    cover_tell.f k nm v f w = some (nm, mx 0 w, (co_tl v f w).1, (co_tl v f w).2) := by
  unfold cover_tell.f co_tl
  have hm : mx 0 f = (co_lo f : Int) := by unfold co_lo mx; split <;> omega
  have hd : co_d f w ≤ 300 := by unfold co_d mx; split <;> omega
  have h0 : (min (f + w) 300 - (co_lo f : Int)).toNat = co_d f w := by unfold co_d; rw [hm]
  have := co_tell v hv nm f w hf hw (mx 0 w) (co_d f w) k (co_lo f) 0 0 h0 (by omega) (by omega) (by omega) (by omega) (by omega) hd
  rw [hm, this]
  simp
theorem co_cnt_add (a b s : List Int) (h : ∀ i : Nat, rd s (i : Int) = rd a (i : Int) + rd b (i : Int)) (ha : ∀ i : Nat, 0 ≤ rd a (i : Int)) (hb : ∀ i : Nat, 0 ≤ rd b (i : Int)) :
    ∀ d i, (co_cnt s d i).2 = (co_cnt a d i).2 + (co_cnt b d i).2 ∧ (co_cnt a d i).1 ≤ (co_cnt s d i).1 ∧ (co_cnt b d i).1 ≤ (co_cnt s d i).1
  | 0, _ => by simp [co_cnt]
  | d + 1, i => by
    have ih := co_cnt_add a b s h ha hb d (i + 1)
    have h1 := h i
    have h2 := ha i
    have h3 := hb i
    rw [co_cnt, co_cnt, co_cnt]
    split <;> split <;> split <;> (try simp only) <;> omega
/-- A module's part. -/
def co_part (v : List Int) (m : S46) : S38 := ⟨m.f0, mx 0 m.f2, (co_tl v m.f1 m.f2).1, (co_tl v m.f1 m.f2).2⟩
structure CoM (M : List S46) : Prop where
  len : M.length ≤ 30
  code : ∀ i : Nat, i < M.length → -1000000 ≤ (rd_T46 M (i : Int)).f1 ∧ (rd_T46 M (i : Int)).f1 ≤ 1000000
  words : ∀ i : Nat, i < M.length → -1000000 ≤ (rd_T46 M (i : Int)).f2 ∧ (rd_T46 M (i : Int)).f2 ≤ 1000000
theorem co_rdM (M : List S46) (i : Nat) (h : i < M.length) : rd_T46 M (i : Int) = M[i] := by
  unfold rd_T46; rw [Int.toNat_natCast]; simp [List.getD_eq_getElem?_getD, h]
theorem co_p1 (v : List Int) (hv : CoV v) (M : List S46) (hM : CoM M) (d : Nat) : ∀ (k i : Nat) (acc : List S38), i + d = M.length → 1000 + d + 1 < k → acc.length ≤ i + 1 →
    cover_Parts.l1 k v acc M (M.length : Int) (i : Int) = some (acc ++ (M.drop i).map (co_part v)) := by
  have hl := hM.len
  induction d with
  | zero =>
    intro k i acc hi hk ha
    obtain ⟨k, rfl⟩ : ∃ m, k = m + 1 := ⟨k - 1, by omega⟩
    simp only [cover_Parts.l1]
    rw [if_neg (by omega), List.drop_eq_nil_of_le (by omega)]
    simp
  | succ d ih =>
    intro k i acc hi hk ha
    obtain ⟨k, rfl⟩ : ∃ m, k = m + 1 := ⟨k - 1, by omega⟩
    simp only [cover_Parts.l1]
    rw [if_pos (by omega), if_pos (by omega), if_pos (by omega), co_Tell v hv _ _ _ (hM.code i (by omega)) (hM.words i (by omega)) k (by omega), Option.bind_some, if_pos (by omega), show wrap64 ((i : Int) + 1) = ((i + 1 : Nat) : Int) by unfold wrap64; omega]
    rw [ih k (i + 1) _ (by omega) (by omega) (by rw [List.length_append, List.length_singleton]; omega), List.drop_eq_getElem_cons (show i < M.length by omega), List.map_cons, ← co_rdM M i (by omega), List.append_assoc]
    rfl
theorem co_p0 (v : List Int) (hv : CoV v) (M : List S46) (hM : CoM M) (b0 b1 b2 b3 b4 : Int) (c5 c6 : List Int) (b7 b8 b9 b10 : Int) (d : Nat) : ∀ (k i : Nat) (f : Int), i + d = M.length → 2000 + d < k → 0 ≤ f → f ≤ 300 →
    ∃ p, cover_Parts.l0 k v f M (M.length : Int) (i : Int) b0 b1 b2 b3 b4 c5 c6 b7 b8 b9 b10 M = some (p :: M.map (co_part v)) := by
  have hl := hM.len
  induction d with
  | zero =>
    intro k i f hi hk h0 h1
    obtain ⟨k, rfl⟩ : ∃ m, k = m + 1 := ⟨k - 1, by omega⟩
    simp only [cover_Parts.l0]
    rw [if_neg (by omega), co_Tell v hv _ 0 f (by omega) (by omega) k (by omega), Option.bind_some]
    have := co_p1 v hv M hM M.length k 0 [(⟨(⟨#[]⟩ : ByteArray), mx 0 f, (co_tl v 0 f).1, (co_tl v 0 f).2⟩ : S38)] (by omega) (by omega) (by rw [List.length_singleton]; omega)
    rw [List.drop_zero] at this
    exact ⟨_, this⟩
  | succ d ih =>
    intro k i f hi hk h0 h1
    obtain ⟨k, rfl⟩ : ∃ m, k = m + 1 := ⟨k - 1, by omega⟩
    simp only [cover_Parts.l0]
    rw [if_pos (by omega), if_pos (by omega), if_pos (by omega), show wrap64 ((i : Int) + 1) = ((i + 1 : Nat) : Int) by unfold wrap64; omega]
    exact ih k (i + 1) _ (by omega) (by omega) (by unfold mn mx; split <;> split <;> omega) (by unfold mn mx; split <;> split <;> omega)
theorem co_Parts (v : List Int) (hv : CoV v) (M : List S46) (hM : CoM M) (b0 b1 b2 b3 b4 : Int) (c5 c6 : List Int) (b7 b8 b9 b10 : Int) (k : Nat) (hk : 3000 < k) : ∃ p, cover_Parts.f k b0 b1 b2 b3 b4 c5 c6 b7 b8 b9 b10 M v = some (p :: M.map (co_part v)) := by
  have hl := hv.len
  have hm := hM.len
  unfold cover_Parts.f
  exact co_p0 v hv M hM b0 b1 b2 b3 b4 c5 c6 b7 b8 b9 b10 M.length k 0 (v.length : Int) (by omega) (by omega) (by omega) (by omega)
theorem co_add (a b : List Int) (ha : CoV a) (hb : CoV b) (n : Nat) (hn : n ≤ 300) (d : Nat) : ∀ (k i : Nat) (x : List Int), i + d = n → d < k → x.length = n → (∀ j : Nat, j < i → rd x (j : Int) = rd a (j : Int) + rd b (j : Int)) → (∀ j : Nat, i ≤ j → rd x (j : Int) = 0) →
    ∃ s, cover_Add.l0 k a b x (n : Int) (i : Int) = some s ∧ s.length = n ∧ ∀ j : Nat, j < n → rd s (j : Int) = rd a (j : Int) + rd b (j : Int) := by
  induction d with
  | zero =>
    intro k i x hi hk hx h1 h2
    obtain ⟨k, rfl⟩ : ∃ m, k = m + 1 := ⟨k - 1, by omega⟩
    refine ⟨x, ?_, hx, fun j hj => h1 j (by omega)⟩
    simp only [cover_Add.l0]
    rw [if_neg (by omega)]
  | succ d ih =>
    intro k i x hi hk hx h1 h2
    obtain ⟨k, rfl⟩ : ∃ m, k = m + 1 := ⟨k - 1, by omega⟩
    have a1 := ha.top i
    have a2 := ha.low i
    have b1 := hb.top i
    have b2 := hb.low i
    have hx0 := h2 i (Nat.le_refl _)
    have hw : wrap64 ((i : Int) + 1) = ((i + 1 : Nat) : Int) := by unfold wrap64; omega
    simp only [cover_Add.l0]
    rw [if_pos (by omega)]
    have step : ∀ (y : List Int), y.length = n → rd y (i : Int) = rd a (i : Int) + rd b (i : Int) → (∀ j : Nat, j ≠ i → rd y (j : Int) = rd x (j : Int)) → ∃ s, cover_Add.l0 k a b y (n : Int) ((i + 1 : Nat) : Int) = some s ∧ s.length = n ∧ ∀ j : Nat, j < n → rd s (j : Int) = rd a (j : Int) + rd b (j : Int) := by
      intro y hy e1 e2
      refine ih k (i + 1) y (by omega) (by omega) hy (fun j hj => ?_) (fun j hj => ?_)
      · by_cases e : j = i
        · subst e; exact e1
        · rw [e2 j e]; exact h1 j (by omega)
      · rw [e2 j (by omega)]; exact h2 j (by omega)
    by_cases ca : (i : Int) < (a.length : Int)
    · rw [if_pos ca, if_pos (by omega), if_pos (by omega), Option.bind_some, hx0, Int.toNat_natCast, co_wrap (by omega) (by omega), hw]
      have hy : rd (x.set i (0 + rd a (i : Int))) (i : Int) = 0 + rd a (i : Int) := by rw [co_set _ _ _ _ (by omega), if_pos rfl]
      by_cases cb : (i : Int) < (b.length : Int)
      · rw [if_pos cb, hy, co_wrap (by omega) (by omega)]
        refine step _ (by rw [List.length_set, List.length_set]; exact hx) ?_ (fun j hj => ?_)
        · rw [co_set _ _ _ _ (by rw [List.length_set]; omega), if_pos rfl]; omega
        · rw [co_set _ _ _ _ (by rw [List.length_set]; omega), if_neg hj, co_set _ _ _ _ (by omega), if_neg hj]
      · rw [if_neg cb]
        refine step _ (by rw [List.length_set]; exact hx) ?_ (fun j hj => ?_)
        · rw [hy, co_out b i (by omega)]; omega
        · rw [co_set _ _ _ _ (by omega), if_neg hj]
    · rw [if_neg ca]
      by_cases cb : (i : Int) < (b.length : Int)
      · rw [if_pos cb, if_pos (by omega), if_pos (by omega), hx0, Int.toNat_natCast, co_wrap (by omega) (by omega), hw]
        refine step _ (by rw [List.length_set]; exact hx) ?_ (fun j hj => ?_)
        · rw [co_set _ _ _ _ (by omega), if_pos rfl, co_out a i (by omega)]
        · rw [co_set _ _ _ _ (by omega), if_neg hj]
      · rw [if_neg cb, hw]
        exact step x hx (by rw [hx0, co_out a i (by omega), co_out b i (by omega)]; rfl) (fun j _ => rfl)
theorem co_Add (a b : List Int) (ha : CoV a) (hb : CoV b) (k : Nat) (hk : 400 < k) : ∃ s, cover_Add.f k a b = some s ∧ (s.length : Int) = mx (a.length : Int) (b.length : Int) ∧ s.length ≤ 300 ∧ ∀ j : Nat, rd s (j : Int) = rd a (j : Int) + rd b (j : Int) := by
  have h1 := ha.len
  have h2 := hb.len
  obtain ⟨n, hn⟩ : ∃ n : Nat, mx (a.length : Int) (b.length : Int) = (n : Int) := ⟨(mx (a.length : Int) (b.length : Int)).toNat, by unfold mx; split <;> omega⟩
  have hna : a.length ≤ n ∧ b.length ≤ n ∧ n ≤ 300 := by unfold mx at hn; split at hn <;> omega
  unfold cover_Add.f
  rw [hn, if_pos (by omega), if_pos (by omega), Int.toNat_natCast, Option.bind_some, List.length_replicate]
  obtain ⟨s, e1, e2, e3⟩ := co_add a b ha hb n (by omega) n k 0 (List.replicate n 0) (by omega) (by omega) List.length_replicate (fun j hj => by omega) (fun j _ => by
    unfold rd
    rw [Int.toNat_natCast, List.getD_eq_getElem?_getD, List.getElem?_replicate]
    split <;> rfl)
  refine ⟨s, e1, by omega, by omega, fun j => ?_⟩
  by_cases hj : j < n
  · exact e3 j hj
  · rw [co_out s j (by omega), co_out a j (by omega), co_out b j (by omega)]; rfl
theorem co_few1 (b0 b1 b2 b3 b4 : Int) (c5 c6 : List Int) (b7 b8 b9 b10 : Int) (M : List S46) (hl : M.length ≤ 30) (d : Nat) : ∀ (k i : Nat), i + d = M.length → d < k →
    ∃ b, pascalinelaw33_few.l1 k (i : Int) b0 b1 b2 b3 b4 c5 c6 b7 b8 b9 b10 M = some b ∧ (b = true → ∀ j : Nat, i ≤ j → j < M.length → (-1000000 ≤ (rd_T46 M (j : Int)).f1 ∧ (rd_T46 M (j : Int)).f1 ≤ 1000000) ∧ (-1000000 ≤ (rd_T46 M (j : Int)).f2 ∧ (rd_T46 M (j : Int)).f2 ≤ 1000000)) := by
  induction d with
  | zero =>
    intro k i hi hk
    obtain ⟨k, rfl⟩ : ∃ m, k = m + 1 := ⟨k - 1, by omega⟩
    refine ⟨true, ?_, fun _ j h1 h2 => by omega⟩
    simp only [pascalinelaw33_few.l1]
    rw [if_neg (by omega)]
  | succ d ih =>
    intro k i hi hk
    obtain ⟨k, rfl⟩ : ∃ m, k = m + 1 := ⟨k - 1, by omega⟩
    obtain ⟨b, hb, hall⟩ := ih k (i + 1) (by omega) (by omega)
    simp only [pascalinelaw33_few.l1]
    rw [if_pos (by omega), if_pos (by omega)]
    by_cases q1 : (rd_T46 M (i : Int)).f1 < -1000000
    · exact ⟨false, by rw [if_pos q1], fun e => by cases e⟩
    rw [if_neg q1]
    by_cases q2 : (rd_T46 M (i : Int)).f1 > 1000000
    · exact ⟨false, by rw [if_pos q2], fun e => by cases e⟩
    rw [if_neg q2]
    by_cases q3 : (rd_T46 M (i : Int)).f2 < -1000000
    · exact ⟨false, by rw [if_pos q3], fun e => by cases e⟩
    rw [if_neg q3]
    by_cases q4 : (rd_T46 M (i : Int)).f2 > 1000000
    · exact ⟨false, by rw [if_pos q4], fun e => by cases e⟩
    rw [if_neg q4, show wrap64 ((i : Int) + 1) = ((i + 1 : Nat) : Int) by unfold wrap64; omega]
    refine ⟨b, hb, fun e j h1 h2 => ?_⟩
    by_cases hj : j = i
    · subst hj; omega
    · exact hall e j (by omega) h2
theorem co_few0 (v : List Int) (hv : v.length ≤ 300) (b0 b1 b2 b3 b4 : Int) (c5 c6 : List Int) (b7 b8 b9 b10 : Int) (M : List S46) (hl : M.length ≤ 30) (d : Nat) : ∀ (k i : Nat), i + d = v.length → 100 + d < k →
    ∃ b, pascalinelaw33_few.l0 k v (i : Int) b0 b1 b2 b3 b4 c5 c6 b7 b8 b9 b10 M = some b ∧ (b = true → CoM M ∧ ∀ j : Nat, i ≤ j → j < v.length → -1000000 ≤ rd v (j : Int) ∧ rd v (j : Int) ≤ 1000000) := by
  induction d with
  | zero =>
    intro k i hi hk
    obtain ⟨k, rfl⟩ : ∃ m, k = m + 1 := ⟨k - 1, by omega⟩
    obtain ⟨b, hb, hall⟩ := co_few1 b0 b1 b2 b3 b4 c5 c6 b7 b8 b9 b10 M hl M.length k 0 (by omega) (by omega)
    refine ⟨b, ?_, fun e => ⟨⟨hl, fun j hj => (hall e j (by omega) hj).1, fun j hj => (hall e j (by omega) hj).2⟩, fun j h1 h2 => by omega⟩⟩
    simp only [pascalinelaw33_few.l0]
    rw [if_neg (by omega)]
    exact hb
  | succ d ih =>
    intro k i hi hk
    obtain ⟨k, rfl⟩ : ∃ m, k = m + 1 := ⟨k - 1, by omega⟩
    obtain ⟨b, hb, hall⟩ := ih k (i + 1) (by omega) (by omega)
    simp only [pascalinelaw33_few.l0]
    rw [if_pos (by omega), if_pos (by omega)]
    by_cases q1 : rd v (i : Int) < -1000000
    · exact ⟨false, by rw [if_pos q1], fun e => by cases e⟩
    rw [if_neg q1]
    by_cases q2 : rd v (i : Int) > 1000000
    · exact ⟨false, by rw [if_pos q2], fun e => by cases e⟩
    rw [if_neg q2, show wrap64 ((i : Int) + 1) = ((i + 1 : Nat) : Int) by unfold wrap64; omega]
    refine ⟨b, hb, fun e => ⟨(hall e).1, fun j h1 h2 => ?_⟩⟩
    by_cases hj : j = i
    · subst hj; omega
    · exact (hall e).2 j (by omega) h2
/-- Visits as they may be given. -/
def CoT (v : List Int) : Prop := v.length ≤ 300 ∧ ∀ j : Nat, -1000000 ≤ rd v (j : Int) ∧ rd v (j : Int) ≤ 1000000
theorem co_Few (v : List Int) (b0 b1 b2 b3 b4 : Int) (c5 c6 : List Int) (b7 b8 b9 b10 : Int) (M : List S46) (k : Nat) (hk : 500 < k) :
    ∃ b, pascalinelaw33_few.f k b0 b1 b2 b3 b4 c5 c6 b7 b8 b9 b10 M v = some b ∧ (b = true → CoM M ∧ CoT v) := by
  obtain ⟨k, rfl⟩ : ∃ m, k = m + 1 := ⟨k - 1, by omega⟩
  unfold pascalinelaw33_few.f
  by_cases h : (v.length : Int) > 300
  · exact ⟨false, by rw [if_pos h]; simp only [pascalinelaw33_few.j0, if_true], fun e => by cases e⟩
  · rw [if_neg h]
    by_cases h2 : (M.length : Int) > 30
    · exact ⟨false, by rw [decide_eq_true h2]; simp only [pascalinelaw33_few.j0, if_true], fun e => by cases e⟩
    · rw [decide_eq_false h2]
      simp only [pascalinelaw33_few.j0, Bool.false_eq_true, if_false]
      obtain ⟨b, hb, hall⟩ := co_few0 v (by omega) b0 b1 b2 b3 b4 c5 c6 b7 b8 b9 b10 M (by omega) v.length k 0 (by omega) (by omega)
      refine ⟨b, hb, fun e => ⟨(hall e).1, by omega, fun j => ?_⟩⟩
      by_cases hj : j < v.length
      · exact (hall e).2 j (by omega) hj
      · rw [co_out v j (by omega)]; omega
theorem CoT.v {v : List Int} (h : CoT v) : CoV v := ⟨h.1, fun j => by have := h.2 j; omega, fun j => by have := h.2 j; omega⟩
theorem co_rdP (L : List S38) (i : Nat) (h : i < L.length) : rd_T38 L (i : Int) = L[i] := by
  unfold rd_T38; rw [Int.toNat_natCast]; simp [List.getD_eq_getElem?_getD, h]
theorem co_l1 (a b s : List Int) (h : ∀ i : Nat, rd s (i : Int) = rd a (i : Int) + rd b (i : Int)) (ha : ∀ i : Nat, 0 ≤ rd a (i : Int)) (hb : ∀ i : Nat, 0 ≤ rd b (i : Int)) (hA : CoV a) (hB : CoV b) (M : List S46) (hM : M.length ≤ 30) (p q r : S38) (d : Nat) : ∀ (k i : Nat), i + d = M.length + 1 → 1 ≤ i → d < k →
    pascalinelaw33_CoverAdds.l1 k (p :: M.map (co_part a)) (q :: M.map (co_part b)) (r :: M.map (co_part s)) (i : Int) = some true := by
  induction d with
  | zero =>
    intro k i hi h1 hk
    obtain ⟨k, rfl⟩ : ∃ m, k = m + 1 := ⟨k - 1, by omega⟩
    simp only [pascalinelaw33_CoverAdds.l1]
    rw [if_neg (by simp; omega)]
  | succ d ih =>
    intro k i hi h1 hk
    obtain ⟨k, rfl⟩ : ∃ m, k = m + 1 := ⟨k - 1, by omega⟩
    obtain ⟨i, rfl⟩ : ∃ m, i = m + 1 := ⟨i - 1, by omega⟩
    have hlt : i < M.length := by omega
    have hg : ∀ (v : List Int) (x : S38), rd_T38 (x :: M.map (co_part v)) ((i + 1 : Nat) : Int) = co_part v M[i] := by
      intro v x
      rw [co_rdP _ _ (by simp; omega)]
      simp
    have hc := co_cnt_add a b s h ha hb (co_d M[i].f1 M[i].f2) (co_lo M[i].f1)
    have ba := co_cnt_bd a hA.top (co_d M[i].f1 M[i].f2) (co_lo M[i].f1)
    have bb := co_cnt_bd b hB.top (co_d M[i].f1 M[i].f2) (co_lo M[i].f1)
    have hd : co_d M[i].f1 M[i].f2 ≤ 301 := by unfold co_d mx; split <;> omega
    simp only [pascalinelaw33_CoverAdds.l1]
    rw [if_pos (by simp; omega), if_pos (by omega), if_pos (by simp; omega), if_pos (by simp; omega), hg, hg, hg]
    have e1 : (co_part s M[i]).f3 = (co_part a M[i]).f3 + (co_part b M[i]).f3 := hc.1
    have e2 : (co_part a M[i]).f2 ≤ (co_part s M[i]).f2 := hc.2.1
    have e3 : (co_part b M[i]).f2 ≤ (co_part s M[i]).f2 := hc.2.2
    have e4 : 0 ≤ (co_part a M[i]).f3 ∧ (co_part a M[i]).f3 ≤ 2000000 * (co_d M[i].f1 M[i].f2 : Int) := ⟨ba.2.2.1, ba.2.2.2⟩
    have e5 : 0 ≤ (co_part b M[i]).f3 ∧ (co_part b M[i]).f3 ≤ 2000000 * (co_d M[i].f1 M[i].f2 : Int) := ⟨bb.2.2.1, bb.2.2.2⟩
    rw [co_wrap (i := (co_part a M[i]).f3 + (co_part b M[i]).f3) (by omega) (by omega), if_pos e1, if_neg (by omega), if_neg (by omega), show wrap64 (((i + 1 : Nat) : Int) + 1) = ((i + 1 + 1 : Nat) : Int) by unfold wrap64; omega]
    exact ih k (i + 1 + 1) (by omega) (by omega) (by omega)
theorem co_l0 (a b s : List Int) (hA : CoT a) (hB : CoT b) (hs : s.length ≤ 300) (hla : a.length ≤ s.length) (hlb : b.length ≤ s.length) (h : ∀ i : Nat, rd s (i : Int) = rd a (i : Int) + rd b (i : Int)) (b0 b1 b2 b3 b4 : Int) (c5 c6 : List Int) (b7 b8 b9 b10 : Int) (M : List S46) (hM : CoM M) (d : Nat) : ∀ (k i : Nat), i + d = s.length → 5000 + 2 * d < k → (∀ j : Nat, j < i → 0 ≤ rd a (j : Int) ∧ 0 ≤ rd b (j : Int)) →
    pascalinelaw33_CoverAdds.l0 k a b s (i : Int) b0 b1 b2 b3 b4 c5 c6 b7 b8 b9 b10 M = some true := by
  have hSV : CoV s := ⟨hs, fun j => by have := hA.2 j; have := hB.2 j; have := h j; omega, fun j => by have := hA.2 j; have := hB.2 j; have := h j; omega⟩
  induction d with
  | zero =>
    intro k i hi hk hn
    obtain ⟨k, rfl⟩ : ∃ m, k = m + 2 := ⟨k - 2, by omega⟩
    have ha : ∀ j : Nat, 0 ≤ rd a (j : Int) := fun j => by
      by_cases hj : j < i
      · exact (hn j hj).1
      · rw [co_out a j (by omega)]; exact Int.le_refl _
    have hb : ∀ j : Nat, 0 ≤ rd b (j : Int) := fun j => by
      by_cases hj : j < i
      · exact (hn j hj).2
      · rw [co_out b j (by omega)]; exact Int.le_refl _
    obtain ⟨p, hp⟩ := co_Parts a hA.v M hM b0 b1 b2 b3 b4 c5 c6 b7 b8 b9 b10 (k + 1) (by omega)
    obtain ⟨q, hq⟩ := co_Parts b hB.v M hM b0 b1 b2 b3 b4 c5 c6 b7 b8 b9 b10 (k + 1) (by omega)
    obtain ⟨r, hr⟩ := co_Parts s hSV M hM b0 b1 b2 b3 b4 c5 c6 b7 b8 b9 b10 (k + 1) (by omega)
    simp only [pascalinelaw33_CoverAdds.l0]
    rw [if_neg (by omega), hp, Option.bind_some, hq, Option.bind_some, hr, Option.bind_some, if_pos (by simp), show (((q :: M.map (co_part b)).length : Int) != ((r :: M.map (co_part s)).length : Int)) = false by simp]
    simp only [pascalinelaw33_CoverAdds.j3, Bool.false_eq_true, if_false]
    have hm := hM.len
    exact co_l1 a b s h ha hb hA.v hB.v M hm p q r M.length k 1 (by omega) (by omega) (by omega)
  | succ d ih =>
    intro k i hi hk hn
    obtain ⟨k, rfl⟩ : ∃ m, k = m + 2 := ⟨k - 2, by omega⟩
    have h1 := hA.2 i
    have h2 := hB.2 i
    have h3 := h i
    have hw : wrap64 ((i : Int) + 1) = ((i + 1 : Nat) : Int) := by unfold wrap64; omega
    have next : 0 ≤ rd a (i : Int) → 0 ≤ rd b (i : Int) → pascalinelaw33_CoverAdds.l0 k a b s ((i + 1 : Nat) : Int) b0 b1 b2 b3 b4 c5 c6 b7 b8 b9 b10 M = some true := by
      intro e1 e2
      refine ih k (i + 1) (by omega) (by omega) (fun j hj => ?_)
      by_cases e : j = i
      · subst e; exact ⟨e1, e2⟩
      · exact hn j (by omega)
    simp only [pascalinelaw33_CoverAdds.l0]
    rw [if_pos (by omega)]
    by_cases ca : (i : Int) < (a.length : Int)
    · rw [if_pos ca, if_pos (by omega)]
      by_cases na : rd a (i : Int) < 0
      · rw [if_pos na]
      · rw [if_neg na, co_wrap (by omega) (by omega)]
        simp only [pascalinelaw33_CoverAdds.j2]
        by_cases cb : (i : Int) < (b.length : Int)
        · rw [if_pos cb, if_pos (by omega)]
          by_cases nb : rd b (i : Int) < 0
          · rw [if_pos nb]
          · rw [if_neg nb, if_pos (by omega), co_wrap (by omega) (by omega), if_pos (by omega), hw]
            exact next (by omega) (by omega)
        · have := co_out b i (by omega)
          rw [if_neg cb, if_pos (by omega), if_pos (by omega), if_pos (by omega), hw]
          exact next (by omega) (by omega)
    · have := co_out a i (by omega)
      rw [if_neg ca]
      simp only [pascalinelaw33_CoverAdds.j2]
      by_cases cb : (i : Int) < (b.length : Int)
      · rw [if_pos cb, if_pos (by omega)]
        by_cases nb : rd b (i : Int) < 0
        · rw [if_pos nb]
        · rw [if_neg nb, if_pos (by omega), co_wrap (by omega) (by omega), if_pos (by omega), hw]
          exact next (by omega) (by omega)
      · have := co_out b i (by omega)
        rw [if_neg cb, if_pos (by omega), if_pos (by omega), if_pos (by omega), hw]
        exact next (by omega) (by omega)
theorem co_awake : pascalinelaw33_awake.f 100 = some true := by kernel_rfl
theorem co_awake_k (k : Nat) (hk : 100 ≤ k) : pascalinelaw33_awake.f k = some true := at_rounds (g := fun k => pascalinelaw33_awake.f k) pascalinelaw33_awake.mono hk co_awake
end Go.Proofs.Ytbhccjoodlldbaa.Q

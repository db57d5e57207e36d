-- Written by a program of this session (wip/tools/hp.py) out of the translation.
import Derived.Test.YtbfepcajbbeheaaPx0
import Derived.Test.YtbfepcajbbeheaaPx1
import Derived.Test.YtbfepcajbbeheaaPx2
import Derived.Test.YtbfepcajbbeheaaPx7
import Derived.Test.YtbfepcajbbeheaaPx9
import Derived.Test.YtbfepcajbbeheaaPx10
import Derived.Test.YtbfepcajbbeheaaPx11
import Derived.Test.YtbfepcajbbeheaaPx12
import Derived.Test.YtbfepcajbbeheaaPx15
namespace Go.Proofs.Ytbfepcajbbeheaa.P
open Go.RowKit Go.Proofs.YtbfepcajbbeheaaW.PrintWords Go.Proofs.YtbfepcajbbeheaaW.PrintLast Go.Proofs.YtbfepcajbbeheaaW.PrintMore
attribute [local go_sem] max2_int min2_int max_two min_two max_three min_three max_four min_four   -- for this text's walks alone
set_option linter.unusedVariables false
set_option linter.unusedSimpArgs false

/-! ### pascalinelaw32_at: function 24 -/
open Go.Proofs.Ytbfepcajbbeheaa.C
/-! What the reference's Do answers is what the turtle does. -/
def tu_8 (T : Tu) (e : Int) : Int × Int × Int × Int × Int × Bool × (List S70) × Int := (T.x, T.y, T.dx, T.dy, T.st, T.dn, T.l, e)
theorem tu_ref_far (n : Int) : pascalineref32_far.f n = some (tu_far n) := by
  unfold pascalineref32_far.f tu_far
  by_cases h : n > 1099511627776
  · rw [if_pos h, decide_eq_true h]; rfl
  · rw [if_neg h, decide_eq_false h]; rfl
theorem tu_ref_move (k : Nat) (T : Tu) (hl : T.l.length ≤ 1000000) (X Y : Int) : pascalineref32_move.f (k + 1) T.x T.y T.dx T.dy T.st T.dn T.l X Y = some (tu_8 (tu_move T X Y).1 (tu_move T X Y).2) := by
  unfold pascalineref32_move.f tu_move
  rw [tu_ref_far, tu_ref_far]
  simp only [Option.bind_some]
  obtain ⟨x, y, dx, dy, st, dn, l⟩ := T
  dsimp only at hl ⊢
  cases h1 : tu_far X
  · cases h2 : tu_far Y
    · simp only [Bool.false_eq_true, if_false, or_self, pascalineref32_move.j0]
      cases dn
      · simp [tu_8]
      · by_cases hx : X = x
        · by_cases hy : Y = y
          · simp [tu_8, hx, hy]
          · have e1 : ([] : List S70).length + l.length < 4398046511104 := by simp; omega
            have e2 : (([] : List S70) ++ l).length + ([⟨x, y, X, Y⟩] : List S70).length < 4398046511104 := by simp; omega
            subst hx
            simp [tu_8, hy]
            omega
        · simp [tu_8, hx]
          omega
    · simp [pascalineref32_move.j0, tu_8]
  · simp [pascalineref32_move.j0, tu_8]
theorem tu_rem64 {m : Int} (hm : -1000000 ≤ m ∧ m ≤ 1000000) : (wrap64 (m.tmod 4 + 4)).tmod 4 = (tu_four m : Int) := by
  have e : m.tmod 4 = if 0 ≤ m then m % 4 else -(-m % 4) := by
    split
    · rename_i h; exact tmod_pos _ _ h
    · rename_i h; exact tmod_neg _ _ (by omega)
  have e2 : wrap64 (m.tmod 4 + 4) = m.tmod 4 + 4 := by
    rw [e]; unfold wrap64; split <;> omega
  rw [e2, tmod_pos _ _ (by rw [e]; split <;> omega), e]
  unfold tu_four
  split <;> omega
theorem tu_turn_x (T : Tu) : ∀ i, (tu_turn i T).x = T.x ∧ (tu_turn i T).y = T.y ∧ (tu_turn i T).st = T.st ∧ (tu_turn i T).dn = T.dn
  | 0 => ⟨rfl, rfl, rfl, rfl⟩
  | i + 1 => tu_turn_x T i
theorem tu_ref_turn {T : Tu} (hO : TuOk T) {m : Int} (hm : -1000000 ≤ m ∧ m ≤ 1000000) : ∀ (d i k : Nat), i + d = tu_four m → d < k → pascalineref32_Do.l0 k m (i : Int) T.x T.y (tu_turn i T).dx (tu_turn i T).dy T.st T.dn T.l = some (tu_8 (tu_turn (tu_four m) T) 0)
  | 0, i, k + 1, h, hk => by
    rw [pascalineref32_Do.l0]
    rw [tu_rem64 hm, if_neg (by omega)]
    have := tu_turn_x T i
    rw [← h, Nat.add_zero]
    unfold tu_8
    rw [this.1, this.2.1, this.2.2.1, this.2.2.2, tu_turn_l]
  | d + 1, i, k + 1, h, hk => by
    have h4 : tu_four m < 4 := by unfold tu_four; omega
    rw [pascalineref32_Do.l0]
    rw [tu_rem64 hm, if_pos (by omega)]
    have hw : wrap64 ((i : Int) + 1) = ((i + 1 : Nat) : Int) := by unfold wrap64; omega
    have ho := tu_turn_ok hO i
    have hd : wrap64 (-(tu_turn i T).dy) = -(tu_turn i T).dy := by have := ho.dy; unfold wrap64; omega
    rw [hw, hd]
    exact tu_ref_turn hO hm d (i + 1) k (by omega) (by omega)
theorem tu_ref_do {T : Tu} (hO : TuOk T) (hl : T.l.length ≤ 1000000) (what m : Int) (hm : -2147483648 ≤ m ∧ m ≤ 2147483647) (k : Nat) : pascalineref32_Do.f (k + 8) T.x T.y T.dx T.dy T.st T.dn T.l what m = some (tu_8 (tu_do T what m).1 (tu_do T what m).2) := by
  have hw : wrap64 m = m := by unfold wrap64; omega
  unfold pascalineref32_Do.f tu_do
  by_cases h1 : what < 1
  · rw [if_pos h1, if_pos (.inl h1)]
    simp [pascalineref32_Do.j0, tu_8]
  · rw [if_neg h1]
    by_cases h2 : 5 < what
    · rw [if_pos (.inr h2), decide_eq_true (show what > 5 from h2)]
      simp [pascalineref32_Do.j0, tu_8]
    · rw [if_neg (by omega), decide_eq_false (show ¬ what > 5 from h2)]
      rw [pascalineref32_Do.j0]
      rw [hw, if_neg (by decide)]
      by_cases h3 : m < -1000000
      · rw [if_pos h3, if_pos (.inl h3)]
        simp [pascalineref32_Do.j1, tu_8]
      · rw [if_neg h3]
        by_cases h4 : 1000000 < m
        · rw [if_pos (.inr h4), decide_eq_true (show m > 1000000 from h4)]
          simp [pascalineref32_Do.j1, tu_8]
        · rw [if_neg (by omega), decide_eq_false (show ¬ m > 1000000 from h4)]
          have hmm : -1000000 ≤ m ∧ m ≤ 1000000 := by omega
          rw [pascalineref32_Do.j1]
          rw [if_neg (by decide)]
          by_cases w1 : what = 1
          · rw [if_pos w1, if_pos w1]
            have hs := tu_step hmm hO.st
            have p1 : wrap64 (wrap64 (T.dx * m) * T.st) = T.dx * (m * T.st) ∧ wrap64 (T.x + T.dx * (m * T.st)) = T.x + T.dx * (m * T.st) := by
              have hx := hO.x
              generalize hp : m * T.st = p at hs
              rcases hO.dx with e | e | e <;> rw [e]
              · have : wrap64 (-1 * m) = -m := by unfold wrap64; omega
                rw [this, Int.neg_mul, hp]; unfold wrap64; constructor <;> omega
              · have : wrap64 (0 * m) = 0 := by rw [Int.zero_mul]; unfold wrap64; omega
                rw [this, Int.zero_mul, Int.zero_mul]; unfold wrap64; constructor <;> omega
              · have : wrap64 (1 * m) = m := by unfold wrap64; omega
                rw [this, hp]; unfold wrap64; constructor <;> omega
            have p2 : wrap64 (wrap64 (T.dy * m) * T.st) = T.dy * (m * T.st) ∧ wrap64 (T.y + T.dy * (m * T.st)) = T.y + T.dy * (m * T.st) := by
              have hx := hO.y
              generalize hp : m * T.st = p at hs
              rcases hO.dy with e | e | e <;> rw [e]
              · have : wrap64 (-1 * m) = -m := by unfold wrap64; omega
                rw [this, Int.neg_mul, hp]; unfold wrap64; constructor <;> omega
              · have : wrap64 (0 * m) = 0 := by rw [Int.zero_mul]; unfold wrap64; omega
                rw [this, Int.zero_mul, Int.zero_mul]; unfold wrap64; constructor <;> omega
              · have : wrap64 (1 * m) = m := by unfold wrap64; omega
                rw [this, hp]; unfold wrap64; constructor <;> omega
            rw [p1.1, p2.1, p1.2, p2.2, tu_ref_move _ T hl]
            rfl
          · rw [if_neg w1, if_neg w1]
            by_cases w2 : what = 2
            · rw [if_pos w2, if_pos w2]
              exact tu_ref_turn hO hmm (tu_four m) 0 _ (by omega) (by unfold tu_four; omega)
            · rw [if_neg w2, if_neg w2]
              by_cases w3 : what = 3
              · rw [if_pos w3, if_pos w3]
                rfl
              · rw [if_neg w3, if_neg w3]
                by_cases w4 : what = 4
                · rw [if_pos w4, if_pos w4, tu_ref_move _ T hl]
                  rfl
                · rw [if_neg w4, if_neg w4]
                  rfl
/-! All strokes are on the paper. -/
theorem tu_move_on {T : Tu} (h : TuOk T) (hon : ∀ x ∈ T.l, tu_on x) (X Y : Int) : ∀ x ∈ (tu_move T X Y).1.l, tu_on x := by
  unfold tu_move
  split
  · exact hon
  · rename_i hf
    have h1 : tu_far X = false := by cases e : tu_far X; rfl; exact absurd (.inl e) hf
    have h2 : tu_far Y = false := by cases e : tu_far Y; rfl; exact absurd (.inr e) hf
    intro x hx
    dsimp only at hx
    split at hx
    · rcases List.mem_append.1 hx with hx | hx
      · exact hon x hx
      · rw [List.mem_singleton] at hx
        subst hx
        exact ⟨h.x, h.y, tu_farness h1, tu_farness h2⟩
    · exact hon x hx
theorem tu_do_on {T : Tu} (h : TuOk T) (hon : ∀ x ∈ T.l, tu_on x) (what m : Int) : ∀ x ∈ (tu_do T what m).1.l, tu_on x := by
  unfold tu_do
  split
  · exact hon
  · split
    · exact hon
    · split
      · exact tu_move_on h hon _ _
      · split
        · rw [tu_turn_l]; exact hon
        · split
          · exact hon
          · split
            · exact tu_move_on h hon 0 0
            · exact hon
theorem tu_run_on : ∀ (ps : List (Int × Int)) (T : Tu) (n : Nat), TuOk T → (∀ x ∈ T.l, tu_on x) → ∀ x ∈ (tu_run T ps n).1.l, tu_on x
  | [], T, n, h, hon => hon
  | p :: t, T, n, h, hon => by
    unfold tu_run
    split
    · exact tu_run_on t _ _ (tu_do_ok h _ _) (tu_do_on h hon _ _)
    · exact tu_do_on h hon _ _
/-! What the reference's Draw answers is what the turtle's does. -/
def tu_9 (r : Tu × Nat × Int) : Int × Int × Int × Int × Int × Bool × (List S70) × Int × Int := (r.1.x, r.1.y, r.1.dx, r.1.dy, r.1.st, r.1.dn, r.1.l, (r.2.1 : Int), r.2.2)
theorem tu_rd_mem (v : List Int) (j : Nat) (h : j < v.length) : rd v (j : Int) ∈ v := by
  unfold rd
  rw [Int.toNat_natCast]
  simp [h]
set_option maxRecDepth 100000 in
theorem tu_ref_l1 (v : List Int) (hv : v.length ≤ 1000) (hr : ∀ x ∈ v, -2147483648 ≤ x ∧ x ≤ 2147483647) : ∀ (d i k : Nat) (T : Tu), TuOk T → T.l.length ≤ i → i + d = v.length / 2 → d + 10 < k →
    pascalineref32_Draw.l1 k v ((2 * i : Nat) : Int) T.x T.y T.dx T.dy T.st T.dn T.l = some (tu_9 (tu_run T ((tu_pairs v).drop i) i))
  | _, _, 0, _, _, _, _, hk => absurd hk (Nat.not_lt_zero _)
  | 0, i, k + 1, T, hO, hl, h, hk => by
    have hw : wrap64 (((2 * i : Nat) : Int) + 1) = ((2 * i + 1 : Nat) : Int) := by unfold wrap64; omega
    have hw2 : wrap64 ((v.length : Int) / 2) = (i : Int) := by unfold wrap64; omega
    rw [pascalineref32_Draw.l1, hw, if_neg (by omega), hw2, List.drop_eq_nil_of_le (by rw [tu_pairs_len]; omega)]
    rfl
  | d + 1, i, k + 1, T, hO, hl, h, hk => by
    have hi : 2 * i + 1 < v.length := by omega
    have hw : wrap64 (((2 * i : Nat) : Int) + 1) = ((2 * i + 1 : Nat) : Int) := by unfold wrap64; omega
    have hw2 : wrap64 (((2 * i : Nat) : Int) + 2) = ((2 * (i + 1) : Nat) : Int) := by unfold wrap64; omega
    have hw3 : wrap64 (Int.tdiv ((2 * i : Nat) : Int) 2) = (i : Int) := by
      show wrap64 (Int.tdiv ((2 * i : Nat) : Int) ((2 : Nat) : Int)) = (i : Int)
      rw [← Int.ofNat_tdiv]
      have : (2 * i) / 2 = i := by omega
      rw [this]
      unfold wrap64
      omega
    have hp := tu_pairs_take v i hi
    obtain ⟨hpi, hpe⟩ := List.getElem?_eq_some_iff.1 hp
    have h1 := hr _ (tu_rd_mem v (2 * i + 1) hi)
    rw [pascalineref32_Draw.l1, hw, if_pos (by omega), if_pos (by omega), if_pos (by omega), if_pos (by omega), List.drop_eq_getElem_cons hpi, hpe]
    generalize rd v ((2 * i : Nat) : Int) = a at *
    generalize rd v ((2 * i + 1 : Nat) : Int) = m at *
    have e8 := tu_ref_do hO (by omega) a m h1 (k - 8)
    rw [show k - 8 + 8 = k from by omega] at e8
    rw [e8]
    simp only [Option.bind_some, tu_8]
    rw [tu_run]
    dsimp only
    have hln := tu_do_len T a m
    by_cases he : (tu_do T a m).2 = 0
    · rw [if_pos he, if_pos he, hw2]
      exact tu_ref_l1 v hv hr d (i + 1) _ _ (tu_do_ok hO a m) (by omega) (by omega) (by omega)
    · rw [if_neg he, if_neg he, hw3]
      rfl
set_option maxRecDepth 100000 in
theorem tu_ref_l0 (l : List S72) (hl : l.length ≤ 1000) (hr : ∀ x ∈ l, -2147483648 ≤ x.f1 ∧ x.f1 ≤ 2147483647) : ∀ (d i k : Nat), i + d = l.length → d + 1100 < k →
    pascalineref32_Draw.l0 k l (tu_vals (l.take i)) (i : Int) = some (tu_9 (tu_drawn l))
  | _, _, 0, _, hk => absurd hk (Nat.not_lt_zero _)
  | 0, i, k + 1, h, hk => by
    have hv : ∀ x ∈ tu_vals l, -2147483648 ≤ x ∧ x ≤ 2147483647 := by
      intro x hx
      unfold tu_vals at hx
      obtain ⟨e, he, rfl⟩ := List.mem_map.1 hx
      exact hr e (List.mem_filter.1 he).1
    have hvl := tu_vals_len l
    have := tu_ref_l1 (tu_vals l) (by omega) hv ((tu_vals l).length / 2) 0 k tu0 tu0_ok (by decide) (by omega) (by omega)
    rw [pascalineref32_Draw.l0, if_neg (by omega), show i = l.length from by omega, List.take_length]
    simp only [pascalineref32_New.f, Option.bind_some]
    exact this
  | d + 1, i, k + 1, h, hk => by
    have hi : i < l.length := by omega
    have hw : wrap64 ((i : Int) + 1) = ((i + 1 : Nat) : Int) := by unfold wrap64; omega
    have er : rd_T72 l (i : Int) = l[i] := by unfold rd_T72; rw [Int.toNat_natCast]; simp [hi]
    have hs := tu_vals_snoc (l.take i) l[i]
    rw [← List.take_succ_eq_append_getElem hi] at hs
    have hvl := tu_vals_len (l.take i)
    rw [List.length_take] at hvl
    rw [pascalineref32_Draw.l0, if_pos (by omega), if_pos (by omega), er, hw]
    by_cases h0 : l[i].f0 = 0
    · rw [if_pos h0] at hs
      rw [if_pos h0, if_pos (by omega), ← hs]
      exact tu_ref_l0 l hl hr d (i + 1) k (by omega) (by omega)
    · rw [if_neg h0] at hs
      rw [if_neg h0, ← hs]
      exact tu_ref_l0 l hl hr d (i + 1) k (by omega) (by omega)
theorem tu_ref_draw (l : List S72) (hl : l.length ≤ 1000) (hr : ∀ x ∈ l, -2147483648 ≤ x.f1 ∧ x.f1 ≤ 2147483647) : pascalineref32_Draw.f 3000 l = some (tu_9 (tu_drawn l)) := by
  unfold pascalineref32_Draw.f
  exact tu_ref_l0 l hl hr l.length 0 3000 (by omega) (by omega)
theorem tu_drawn_ok (l : List S72) : TuOk (tu_drawn l).1 ∧ (tu_drawn l).1.l.length ≤ l.length ∧ ∀ x ∈ (tu_drawn l).1.l, tu_on x := by
  have h := tu_run_ok (tu_pairs (tu_vals l)) tu0 0 tu0_ok
  have h1 := tu_pairs_len (tu_vals l)
  have h2 := tu_vals_len l
  have h0 : tu0.l.length = 0 := rfl
  exact ⟨h.1, by unfold tu_drawn; omega, tu_run_on _ _ _ tu0_ok (fun x hx => by cases hx)⟩
theorem tu_le {base : Nat} {w : World} {g : Nat} {T : Tu} (h : IsT base w g T) : g < w.heap.size ∧ base ≤ g := by
  obtain ⟨_, _, _, _, _, _, hb, _, _, hg⟩ := h
  exact ⟨blk_lt hb, hg⟩
def tu_evs (l : List S33) : List S72 := l.flatMap (fun p => [⟨0, p.f0⟩, ⟨0, p.f1⟩])
theorem tu_evs_len (l : List S33) : (tu_evs l).length = 2 * l.length := by
  unfold tu_evs
  induction l with
  | nil => rfl
  | cons x t ih => rw [List.flatMap_cons, List.length_append, ih]; simp only [List.length_cons, List.length_nil]; omega
theorem tu_events_go (l : List S33) (hl : l.length ≤ 1000) : ∀ (d i k : Nat) (acc : List S72), i + d = l.length → d < k → acc.length = 2 * i → pascalinelaw32_events.l0 k l acc (i : Int) = some (acc ++ tu_evs (l.drop i))
  | 0, i, k + 1, acc, h, hk, ha => by
    rw [pascalinelaw32_events.l0, if_neg (by omega), List.drop_eq_nil_of_le (by omega)]
    simp [tu_evs]
  | d + 1, i, k + 1, acc, h, hk, ha => by
    have hi : i < l.length := by omega
    have hw : wrap64 ((i : Int) + 1) = ((i + 1 : Nat) : Int) := by unfold wrap64; omega
    have er : rd_T33 l (i : Int) = l[i] := by unfold rd_T33; rw [Int.toNat_natCast]; simp [hi]
    rw [pascalinelaw32_events.l0, if_pos (by omega), if_pos (by omega), er, hw]
    simp only [Option.bind_some]
    rw [if_pos (by simp only [List.length_cons, List.length_nil]; omega), tu_events_go l hl d (i + 1) k _ (by omega) (by omega) (by rw [List.length_append]; simp only [List.length_cons, List.length_nil]; omega), List.drop_eq_getElem_cons hi, show tu_evs (l[i] :: l.drop (i + 1)) = [⟨0, l[i].f0⟩, ⟨0, l[i].f1⟩] ++ tu_evs (l.drop (i + 1)) from by simp only [tu_evs, List.flatMap_cons], List.append_assoc]
theorem tu_events (l : List S33) (hl : l.length ≤ 1000) : pascalinelaw32_events.f 2000 l = some (tu_evs l) := by
  unfold pascalinelaw32_events.f
  rw [show (0 : Int) = ((0 : Nat) : Int) from rfl, tu_events_go l hl l.length 0 2000 [] (by omega) (by omega) rfl]
  simp
/-- A turtle and a row of the reference's stay where the blocks of their types stay. -/
theorem td_move {b : Nat} {w w' : World} {g : Nat} {T : Tu} (h : IsT b w g T) (hm : ∀ (k : Nat) (cs : Array Value) (t : TypeId) (f : Nat × Nat), w.heap[k]? = some (.cells cs t f) → (t = 51 ∨ t = 68) → w'.heap[k]? = w.heap[k]?) : IsT b w' g T := by
  obtain ⟨ax, ay, lx, ly, s, v, hblk, hf, hS, hb⟩ := h
  refine ⟨ax, ay, lx, ly, s, v, (hm _ _ _ _ hblk (.inl rfl)).trans hblk, hf, ?_, hb⟩
  refine Kd.R_mono (Kd.R_step (Kd.R_tight rfl hS) (fun k hk2 hlt => ?_)) (fun _ _ => trivial)
  obtain ⟨cells, hc⟩ := Kd.R_typed hS k hk2.symm
  exact hm _ _ _ _ hc (.inr rfl)
theorem td_below {b : Nat} {w w' : World} {g : Nat} {T : Tu} (h : IsT b w g T) (hb : Below w.heap.size w w') : IsT b w' g T := td_move h (fun k _ _ _ e _ => hb.block k (blk_lt e))

end Go.Proofs.Ytbfepcajbbeheaa.P

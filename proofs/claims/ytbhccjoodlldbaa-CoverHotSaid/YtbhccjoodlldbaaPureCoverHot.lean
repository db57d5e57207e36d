/- CoverHot: which words were done most often, and where it turns, is what the page says. For all visits, and however many are asked for; no condition. -/
import Derived.Test.YtbhccjoodlldbaaPx6
import Derived.Test.YtbhccjoodlldbaaPx7
import Derived.Test.YtbhccjoodlldbaaPx8
import Derived.Test.YtbhccjoodlldbaaPx11
import Derived.Test.YtbhccjoodlldbaaPx12
import Derived.Test.YtbhccjoodlldbaaPx15
import Derived.Test.YtbhccjoodlldbaaPx16
import Derived.Test.YtbhccjoodlldbaaPx17
namespace Go.Proofs.Ytbhccjoodlldbaa.Pure
set_option linter.unusedSimpArgs false
set_option linter.unusedVariables false
open Go Go.RowKit Go.Proofs.Ytbhccjoodlldbaa.P Go.Proofs.Ytbhccjoodlldbaa.C Go.Proofs.YtbhccjoodlldbaaW.PrintWords Go.Proofs.YtbhccjoodlldbaaW.PrintLast Go.Proofs.YtbhccjoodlldbaaW.PrintMore
theorem ch_awake : pascalinelaw33_awake.f 100 = some true := by kernel_rfl
theorem ch_awake_k (k : Nat) (hk : 100 ≤ k) : pascalinelaw33_awake.f k = some true := at_rounds (g := fun k => pascalinelaw33_awake.f k) pascalinelaw33_awake.mono hk ch_awake
theorem ch_few0 (v : List Int) (hv : v.length ≤ 300) (d : Nat) : ∀ (k i : Nat), i + d = v.length → 2 + d < k →
    ∃ b, pascalinelaw33_few.l0 k v (i : Int) 0 0 0 0 0 ([] : List Int) ([] : List Int) 0 0 0 0 ([] : List S46) = some b := by
  induction d with
  | zero =>
    intro k i hi hk
    obtain ⟨k, rfl⟩ : ∃ m, k = m + 2 := ⟨k - 2, by omega⟩
    refine ⟨true, ?_⟩
    simp only [pascalinelaw33_few.l0]
    rw [if_neg (by omega)]
    simp only [pascalinelaw33_few.l1]
    rw [if_neg (by simp)]
  | succ d ih =>
    intro k i hi hk
    obtain ⟨k, rfl⟩ : ∃ m, k = m + 1 := ⟨k - 1, by omega⟩
    obtain ⟨b, hb⟩ := ih k (i + 1) (by omega) (by omega)
    simp only [pascalinelaw33_few.l0]
    rw [if_pos (by omega), if_pos (by omega)]
    by_cases q1 : rd v (i : Int) < -1000000
    · exact ⟨false, by rw [if_pos q1]⟩
    rw [if_neg q1]
    by_cases q2 : rd v (i : Int) > 1000000
    · exact ⟨false, by rw [if_pos q2]⟩
    rw [if_neg q2, show wrap64 ((i : Int) + 1) = ((i + 1 : Nat) : Int) by unfold wrap64; omega]
    exact ⟨b, hb⟩
theorem ch_few (v : List Int) (k : Nat) (hk : 500 < k) :
    ∃ b, pascalinelaw33_few.f k 0 0 0 0 0 ([] : List Int) ([] : List Int) 0 0 0 0 ([] : List S46) v = some b ∧ (b = true → v.length ≤ 300) := by
  obtain ⟨k, rfl⟩ : ∃ m, k = m + 1 := ⟨k - 1, by omega⟩
  unfold pascalinelaw33_few.f
  by_cases h : (v.length : Int) > 300
  · exact ⟨false, by rw [if_pos h]; simp only [pascalinelaw33_few.j0, if_true], fun e => by cases e⟩
  · rw [if_neg h]
    rw [decide_eq_false (show ¬ ((([] : List S46).length : Int) > 30) by simp)]
    simp only [pascalinelaw33_few.j0, Bool.false_eq_true, if_false]
    obtain ⟨b, hb⟩ := ch_few0 v (by omega) v.length k 0 (by omega) (by omega)
    exact ⟨b, hb, fun _ => by omega⟩
theorem ch_same0 (L : List Int) (hl : L.length ≤ 1000) (d : Nat) : ∀ (k i : Nat), i + d = L.length → d < k → pascalinelaw33_same.l0 k L L (i : Int) = some true := by
  induction d with
  | zero =>
    intro k i hi hk
    obtain ⟨k, rfl⟩ : ∃ m, k = m + 1 := ⟨k - 1, by omega⟩
    simp only [pascalinelaw33_same.l0]
    rw [if_neg (by omega)]
  | succ d ih =>
    intro k i hi hk
    obtain ⟨k, rfl⟩ : ∃ m, k = m + 1 := ⟨k - 1, by omega⟩
    simp only [pascalinelaw33_same.l0]
    rw [if_pos (by omega), if_pos (by omega), if_pos (by omega), if_pos trivial, show wrap64 ((i : Int) + 1) = ((i + 1 : Nat) : Int) by unfold wrap64; omega]
    exact ih k (i + 1) (by omega) (by omega)
theorem ch_same (L : List Int) (hl : L.length ≤ 300) (k : Nat) (hk : 500 < k) : pascalinelaw33_same.f k L L = some true := by
  unfold pascalinelaw33_same.f
  rw [if_pos rfl]
  exact ch_same0 L (by omega) L.length k 0 (by omega) (by omega)
theorem ch_runs0 (v : List Int) (hv : v.length ≤ 300) (d : Nat) : ∀ (k i : Nat), i + d = v.length → d < k → pascalineref33_Runs.l0 k v (cr_run (rd v) i) (i : Int) = some (cr_run (rd v) v.length) := by
  induction d with
  | zero =>
    intro k i hi hk
    obtain ⟨k, rfl⟩ : ∃ m, k = m + 1 := ⟨k - 1, by omega⟩
    simp only [pascalineref33_Runs.l0]
    rw [if_neg (by omega), show i = v.length by omega]
  | succ d ih =>
    intro k i hi hk
    obtain ⟨k, rfl⟩ : ∃ m, k = m + 1 := ⟨k - 1, by omega⟩
    have hlen := cr_len (rd v) i
    have hnext := ih k (i + 1) (by omega) (by omega)
    have e1 : wrap64 ((i : Int) + 1) = ((i + 1 : Nat) : Int) := by unfold wrap64; omega
    simp only [pascalineref33_Runs.l0]
    rw [if_pos (by omega), e1]
    rw [cr_run] at hnext
    by_cases h0 : i = 0
    · subst h0
      rw [if_pos (show ((0 : Nat) : Int) = 0 from rfl), if_pos (by omega)]
      rw [if_pos (Or.inl rfl)] at hnext
      exact hnext
    · rw [if_neg (by omega), if_pos (by omega)]
      have e2 : wrap64 ((i : Int) - 1) = (i : Int) - 1 := by unfold wrap64; omega
      rw [e2, if_pos (by omega), if_pos (by omega)]
      have e3 : (decide (rd v (i : Int) > 0) != decide (rd v ((i : Int) - 1) > 0)) = (decide (0 < rd v (i : Int)) != decide (0 < rd v ((i : Int) - 1))) := rfl
      rw [e3]
      by_cases hc : (decide (0 < rd v (i : Int)) != decide (0 < rd v ((i : Int) - 1))) = true
      · rw [if_pos hc, if_pos (by omega)]
        rw [if_pos (Or.inr hc)] at hnext
        exact hnext
      · rw [if_neg hc]
        rw [if_neg (by rintro (hx | hx); exact h0 hx; exact hc hx)] at hnext
        exact hnext
theorem CoverHot : pascalinelaw33_CoverHot.Pure := by
  intro l0 a1
  intros
  refine ⟨1000, ?_⟩
  unfold pascalinelaw33_CoverHot.f
  rw [ch_awake_k 1000 (by omega), Option.bind_some, if_pos rfl]
  obtain ⟨b, hb, hlen⟩ := ch_few l0 1000 (by omega)
  rw [hb, Option.bind_some]
  cases b with
  | false => rw [if_neg (by decide)]
  | true =>
    have hl := hlen rfl
    rw [if_pos rfl]
    have h1 : cover_Hot.f l0 a1 = some ((ht_all (rd l0) l0.length).take (max 0 (min a1 ((ht_all (rd l0) l0.length).length : Int))).toNat) := by unfold cover_Hot.f; rw [if_pos (by omega)]
    have h2 : pascalineref33_Hot.f l0 a1 = _ := h1
    rw [h1, Option.bind_some, h2, Option.bind_some]
    have hlh : (ht_all (rd l0) l0.length).length ≤ 300 := by rw [ht_all_len]; have := ht_pos_le (rd l0) l0.length; omega
    rw [ch_same _ (by rw [List.length_take]; omega) 1000 (by omega), Option.bind_some, if_pos rfl]
    have h3 : cover_Runs.f l0 = some (cr_run (rd l0) l0.length) := by unfold cover_Runs.f; rw [if_pos (by omega)]
    have h4 : pascalineref33_Runs.f 1000 l0 = some (cr_run (rd l0) l0.length) := ch_runs0 l0 hl l0.length 1000 0 (by omega) (by omega)
    have hlr := cr_len (rd l0) l0.length
    rw [h3, Option.bind_some, h4, Option.bind_some, ch_same _ (by omega) 1000 (by omega), Option.bind_some]
end Go.Proofs.Ytbhccjoodlldbaa.Pure

-- Written by a program of this session (wip/tools/hp.py) out of the translation.
import Derived.Test.YtajcopcmahidhaaPx0
import Derived.Test.YtajcopcmahidhaaPx5
import Derived.Test.YtajcopcmahidhaaPx11
import Derived.Test.YtajcopcmahidhaaPx12
import Derived.Test.YtajcopcmahidhaaPx13
import Derived.Test.YtajcopcmahidhaaPx14
import Derived.Test.YtajcopcmahidhaaPx16
import Derived.Test.YtajcopcmahidhaaPx17
namespace Go.Proofs.Ytajcopcmahidhaa.P
open Go.RowKit Go.Proofs.YtajcopcmahidhaaW.PrintWords Go.Proofs.YtajcopcmahidhaaW.PrintLast Go.Proofs.YtajcopcmahidhaaW.PrintMore
attribute [local go_sem] max2_int min2_int max_two min_two max_three min_three max_four min_four   -- for this text's walks alone
set_option linter.unusedVariables false
set_option linter.unusedSimpArgs false

/-! ### pascalinelaw29_TraceParts: function 5 -/
/-- Are these the first ones of those, from a place on? Both ways to ask answer alike. -/
theorem tr_prefix_loop (a b : List S27) (hab : a.length ≤ b.length) (hl : a.length ≤ 100000) (d : Nat) : ∀ (k i : Nat), i ≤ a.length → a.length - i = d → d < k →
    ∃ r, api_Event_31.l0 k a (b.take a.length) (a.length : Int) (i : Int) = some r ∧ pascalineref29_Prefix.l0 k a b (i : Int) = some r := by
  induction d with
  | zero =>
    intro k i hi hd hk
    obtain ⟨k, rfl⟩ : ∃ m, k = m + 1 := ⟨k - 1, by omega⟩
    exact ⟨true, by simp only [api_Event_31.l0]; rw [if_neg (by omega)], by simp only [pascalineref29_Prefix.l0]; rw [if_neg (by omega)]⟩
  | succ d ih =>
    intro k i hi hd hk
    obtain ⟨k, rfl⟩ : ∃ m, k = m + 1 := ⟨k - 1, by omega⟩
    obtain ⟨r, h1, h2⟩ := ih k (i + 1) (by omega) (by omega) (by omega)
    have e : rd_T27 (b.take a.length) (i : Int) = rd_T27 b (i : Int) := by
      unfold rd_T27; rw [Int.toNat_natCast]; simp [List.getD_eq_getElem?_getD, List.getElem?_take, show i < a.length by omega]
    have hlen : (b.take a.length).length = a.length := by rw [List.length_take]; omega
    have ha : api_Event_31.l0 (k + 1) a (b.take a.length) (a.length : Int) (i : Int) = if (!(((rd_T27 a (i : Int)).f0) == ((rd_T27 b (i : Int)).f0)) || (!(((rd_T27 a (i : Int)).f1) == ((rd_T27 b (i : Int)).f1)))) = true then some false else api_Event_31.l0 k a (b.take a.length) (a.length : Int) ((i + 1 : Nat) : Int) := by
      simp only [api_Event_31.l0]
      rw [hlen, e, if_pos (by omega), if_pos (by omega), if_pos (by omega), if_pos (by omega), tr_wrap (by omega) (by omega), show ((i : Int) + 1) = ((i + 1 : Nat) : Int) by omega]
    have hb : pascalineref29_Prefix.l0 (k + 1) a b (i : Int) = if (!(((rd_T27 a (i : Int)).f0) == ((rd_T27 b (i : Int)).f0)) || (!(((rd_T27 a (i : Int)).f1) == ((rd_T27 b (i : Int)).f1)))) = true then some false else pascalineref29_Prefix.l0 k a b ((i + 1 : Nat) : Int) := by
      simp only [pascalineref29_Prefix.l0]
      rw [if_pos (by omega), if_pos (by omega), if_pos (by omega), tr_wrap (by omega) (by omega), show ((i : Int) + 1) = ((i + 1 : Nat) : Int) by omega]
    rw [ha, hb, h1, h2]
    split
    · exact ⟨false, rfl, rfl⟩
    · exact ⟨r, rfl, rfl⟩
theorem tr_prefix (k : Nat) (a b : List S27) (hl : a.length ≤ 100000) (hk : a.length < k) : ∃ r, trace_Prefix.f k a b = some r ∧ pascalineref29_Prefix.f k a b = some r := by
  unfold trace_Prefix.f pascalineref29_Prefix.f
  by_cases h : (a.length : Int) ≤ (b.length : Int)
  · obtain ⟨r, h1, h2⟩ := tr_prefix_loop a b (by omega) hl a.length k 0 (by omega) (by omega) hk
    refine ⟨r, ?_, by rw [if_neg (by omega)]; exact h2⟩
    rw [if_pos h, if_pos (by omega)]
    unfold api_Event_31.f
    rw [Int.toNat_natCast, if_pos (by rw [List.length_take]; omega)]
    rw [show ((0 : Nat) : Int) = 0 from rfl] at h1
    rw [h1]
    rfl
  · exact ⟨false, by rw [if_neg h], by rw [if_pos (by omega)]⟩
theorem tr_own_loop (a b : List S27) (hab : a = b.take a.length) (hl : a.length ≤ 100000) (hlb : a.length ≤ b.length) (d : Nat) : ∀ (k i : Nat), i ≤ a.length → a.length - i = d → d < k → pascalineref29_Prefix.l0 k a b (i : Int) = some true := by
  induction d with
  | zero =>
    intro k i hi hd hk
    obtain ⟨k, rfl⟩ : ∃ m, k = m + 1 := ⟨k - 1, by omega⟩
    simp only [pascalineref29_Prefix.l0]; rw [if_neg (by omega)]
  | succ d ih =>
    intro k i hi hd hk
    obtain ⟨k, rfl⟩ : ∃ m, k = m + 1 := ⟨k - 1, by omega⟩
    have e : rd_T27 a (i : Int) = rd_T27 b (i : Int) := by
      rw [hab]; unfold rd_T27; rw [Int.toNat_natCast]; simp [List.getD_eq_getElem?_getD, List.getElem?_take, show i < a.length by omega]
    simp only [pascalineref29_Prefix.l0]
    rw [e, if_pos (by omega), if_pos (by omega), if_pos (by omega), if_neg (by simp), tr_wrap (by omega) (by omega), show ((i : Int) + 1) = ((i + 1 : Nat) : Int) by omega]
    exact ih k (i + 1) (by omega) (by omega) (by omega)
theorem tr_own (k : Nat) (a b : List S27) (hab : a = b.take a.length) (hl : a.length ≤ 100000) (hlb : a.length ≤ b.length) (hk : a.length < k) : pascalineref29_Prefix.f k a b = some true ∧ trace_Prefix.f k a b = some true := by
  have h : pascalineref29_Prefix.f k a b = some true := by
    unfold pascalineref29_Prefix.f
    rw [if_neg (by omega)]
    exact tr_own_loop a b hab hl hlb a.length k 0 (by omega) (by omega) hk
  obtain ⟨r, h1, h2⟩ := tr_prefix k a b hl hk
  rw [h] at h2
  exact ⟨h, by rw [h1, ← h2]⟩
theorem tr_same (k : Nat) (a : List S27) (hl : a.length ≤ 100000) (hk : a.length < k) : pascalinelaw29_same.f k a a = some true := by
  unfold pascalinelaw29_same.f
  rw [if_pos rfl, (tr_own k a a (by simp) hl (Nat.le_refl _) hk).1]
  rfl
theorem tr_awake : pascalinelaw29_awake.f 20 = some true := by decide +kernel
def pascalinelaw29_TraceParts.f (k : Nat) (l0 l1 : List S27) (l2 : List Int) : Option Bool := if 1000 ≤ k then some true else none
set_option maxHeartbeats 2000000 in
set_option maxRecDepth 100000 in
theorem pascalinelaw29_TraceParts.calls (k : Nat) (A0 : Option Addr) (c0 : Nat) (l0 : List S27) (A1 : Option Addr) (c1 : Nat) (l1 : List S27) (A2 : Option Addr) (c2 : Nat) (l2 : List Int) (r : Bool) (w : World) (hr0 : Kd.C k27 w A0 l0.length l0) (hc0 : l0.length ≤ c0) (hr1 : Kd.C k27 w A1 l1.length l1) (hc1 : l1.length ≤ c1) (hr2 : Kd.C (Kd.int .i32) w A2 l2.length l2) (hc2 : l2.length ≤ c2) (h : pascalinelaw29_TraceParts.f k l0 l1 l2 = some r) :
    Calls Try.prog 5 #[.slice A0 l0.length c0, .slice A1 l1.length c1, .slice A2 l2.length c2] w fun e w' => e = .returned (.bool r) ∧ Below w.heap.size w w' := by
  unfold pascalinelaw29_TraceParts.f at h
  by_cases hk : 1000 ≤ k
  · rw [if_pos hk] at h
    obtain rfl : r = true := by injection h with h; exact h.symm
    clear h hk
    have H0 := Aside0.mk (And.intro hr0 hc0)
    have H1 := Aside0.mk (And.intro hr1 hc1)
    have H2 := Aside0.mk (And.intro hr2 hc2)
    clear hr0 hr1 hr2 hc0 hc1 hc2
    by_cases g0 : (200 : Int) < (l0.length : Int)
    · generalize l0.length = n0 at *
      go_enter Try.func5, Try.ntmps5
      go_wp2_with (go_at_call 7; ((with_reducible refine (pascalinelaw29_awake.calls 20 true _ tr_awake).mono ?_)); rintro e w1 ⟨rfl, hb⟩; have HB1 := Aside0.mk hb; clear hb)
      go_ret
      exact ⟨rfl, HB1.out⟩
    by_cases g1 : (200 : Int) < (l1.length : Int)
    · have g0b : decide ((200 : Int) < (l0.length : Int)) = false := decide_eq_false g0
      clear g0
      generalize l0.length = n0 at *
      generalize l1.length = n1 at *
      go_enter Try.func5, Try.ntmps5
      go_wp2_with (go_at_call 7; ((with_reducible refine (pascalinelaw29_awake.calls 20 true _ tr_awake).mono ?_)); rintro e w1 ⟨rfl, hb⟩; have HB1 := Aside0.mk hb; clear hb)
      go_ret
      exact ⟨rfl, HB1.out⟩
    have g0b : decide ((200 : Int) < (l0.length : Int)) = false := decide_eq_false g0
    have g1b : decide ((200 : Int) < (l1.length : Int)) = false := decide_eq_false g1
    by_cases g2 : (20 : Int) < (l2.length : Int)
    · clear g0 g1
      generalize l0.length = n0 at *
      generalize l1.length = n1 at *
      generalize l2.length = n2 at *
      go_enter Try.func5, Try.ntmps5
      go_wp2_with (go_at_call 7; ((with_reducible refine (pascalinelaw29_awake.calls 20 true _ tr_awake).mono ?_)); rintro e w1 ⟨rfl, hb⟩; have HB1 := Aside0.mk hb; clear hb)
      go_ret
      exact ⟨rfl, HB1.out⟩
    have g2b : decide ((20 : Int) < (l2.length : Int)) = false := decide_eq_false g2
    have hln := tr_until_len l2 l0
    have hut := tr_until_take l2 l0
    obtain ⟨rp, hp1, hp2⟩ := tr_prefix 1000 l0 l1 (by omega) (by omega)
    have hsm := tr_same 1000 (tr_until l2 l0) (by omega) (by omega)
    have hL0 : l0.length ≤ 100000 := by omega
    have hL2 : l2.length ≤ 100000 := by omega
    have HP := Aside0.mk (And.intro hp1 hp2)
    have HS := Aside0.mk hsm
    have HU := Aside0.mk (And.intro hln hut)
    have HL := Aside0.mk (And.intro hL0 hL2)
    clear g0 g1 g2 hln hut hp1 hp2 hsm hL0 hL2
    go_enter Try.func5, Try.ntmps5
    go_wp2_with (first
      | (go_at_call 7; ((with_reducible refine (pascalinelaw29_awake.calls 20 true _ tr_awake).mono ?_)); rintro e w1 ⟨rfl, hb⟩; have HB1 := Aside0.mk hb; clear hb)
      | (go_at_call 19; ((with_reducible refine (trace_Prefix.calls 1000 A0 c0 l0 A1 c1 l1 rp _ (Kd.C_below H0.out.1 HB1.out) H0.out.2 (Kd.C_below H1.out.1 HB1.out) H1.out.2 HP.out.1).mono ?_)); rintro e w2 ⟨rfl, hd⟩; have HB2 := Aside0.mk (below_step HB1.out hd.below); clear hd HB1)
      | (go_at_call 20; ((with_reducible refine (pascalineref29_Prefix.calls 1000 A0 c0 l0 A1 c1 l1 rp _ (Kd.C_below H0.out.1 HB2.out) H0.out.2 (Kd.C_below H1.out.1 HB2.out) H1.out.2 HP.out.2).mono ?_)); rintro e w3 ⟨rfl, hd⟩; have HB3 := Aside0.mk (below_step HB2.out hd.below); clear hd HB2)
      | (go_at_call 22; ((with_reducible refine (trace_Until.calls A0 c0 l0 A2 c2 l2 _ HL.out.1 HL.out.2 (Kd.C_below H0.out.1 HB3.out) H0.out.2 (Kd.C_below H2.out.1 HB3.out) H2.out.2).mono ?_)); rintro e w4 ⟨v4, rfl, ho, hb⟩; obtain ⟨A4, c4, rfl⟩ := Kd.R_slice ho; have HO4 := Aside0.mk ho; have HB4 := Aside0.mk (below_step HB3.out hb); clear hb ho HB3)
      | (go_at_call 23; ((with_reducible refine (pascalineref29_Until.calls A0 c0 l0 A2 c2 l2 _ HL.out.1 HL.out.2 (Kd.C_below H0.out.1 HB4.out) H0.out.2 (Kd.C_below H2.out.1 HB4.out)).mono ?_)); rintro e w5 ⟨rfl, hb⟩; have HO5 := Aside0.mk (Kd.R_below HO4.out hb); have HB5 := Aside0.mk (below_step HB4.out hb); clear hb HO4 HB4)
      | (go_at_call 21; ((with_reducible refine (pascalinelaw29_same.calls 1000 A4 c4 (tr_until l2 l0) A0 c0 (tr_until l2 l0) true _ (Kd.R_reads' HO5.out).2.2 (Kd.R_reads' HO5.out).2.1 (by have h := Kd.C_take (m := (tr_until l2 l0).length) (Kd.C_below H0.out.1 HB5.out) HU.out.1; rwa [← HU.out.2] at h) (by have := HU.out.1; have := H0.out.2; omega) HS.out).mono ?_)); rintro e w6 ⟨rfl, hd⟩; have HB6 := Aside0.mk (below_step HB5.out hd.below); clear hd HO5 HB5))
    go_ret
    exact ⟨rfl, HB6.out⟩
  · rw [if_neg hk] at h; exact absurd h (by simp)

end Go.Proofs.Ytajcopcmahidhaa.P

-- Written by a program of this session (wip/tools/hp.py) out of the translation.
import Derived.Test.YtajcopcmahidhaaPx0
import Derived.Test.YtajcopcmahidhaaPx4
import Derived.Test.YtajcopcmahidhaaPx5
import Derived.Test.YtajcopcmahidhaaPx12
import Derived.Test.YtajcopcmahidhaaPx16
import Derived.Test.YtajcopcmahidhaaPx18
import Derived.Test.YtajcopcmahidhaaPx19
namespace Go.Proofs.Ytajcopcmahidhaa.P
open Go.RowKit Go.Proofs.YtajcopcmahidhaaW.PrintWords Go.Proofs.YtajcopcmahidhaaW.PrintLast Go.Proofs.YtajcopcmahidhaaW.PrintMore
attribute [local go_sem] max2_int min2_int max_two min_two max_three min_three max_four min_four   -- for this text's walks alone
set_option linter.unusedVariables false
set_option linter.unusedSimpArgs false

/-! ### pascalinelaw29_TraceAhead: function 6 -/
def tr_line (k : Nat) (x : S27) : ByteArray := (trace_Line.f k x.f0 x.f1).getD ⟨#[]⟩
def tr_lined (k : Nat) (l : List S27) : Bool := l.all (fun x => (trace_Line.f k x.f0 x.f1).isSome && decide ((tr_line k x).size ≤ 1000))
theorem tr_lined_at {k : Nat} {l : List S27} (h : tr_lined k l = true) (x : S27) (hx : x ∈ l) : trace_Line.f k x.f0 x.f1 = some (tr_line k x) ∧ (tr_line k x).size ≤ 1000 := by
  have h1 := List.all_eq_true.mp h x hx
  rw [Bool.and_eq_true, decide_eq_true_eq] at h1
  refine ⟨?_, h1.2⟩
  obtain ⟨s, hs⟩ := Option.isSome_iff_exists.mp h1.1
  unfold tr_line; rw [hs]; rfl
def pascalinelaw29_TraceAhead.f (k : Nat) (l0 : List S27) (l1 : List Int) (a2 : Int) : Option Bool := if 1000 ≤ k ∧ tr_lined k l0 = true ∧ 0 ≤ a2 ∧ a2 ≤ 255 then some true else none
theorem tr_prefix_nil (l : List S27) : trace_Prefix.f 1000 [] l = some true := (tr_own 1000 [] l (by simp) (by simp) (by simp) (by simp)).2
set_option maxHeartbeats 8000000 in
set_option maxRecDepth 100000 in
theorem pascalinelaw29_TraceAhead.calls (k : Nat) (A0 : Option Addr) (c0 : Nat) (l0 : List S27) (A1 : Option Addr) (c1 : Nat) (l1 : List Int) (a2 : Int) (r : Bool) (w : World) (hr0 : Kd.C k27 w A0 l0.length l0) (hc0 : l0.length ≤ c0) (hr1 : Kd.C (Kd.int .i32) w A1 l1.length l1) (hc1 : l1.length ≤ c1) (h : pascalinelaw29_TraceAhead.f k l0 l1 a2 = some r) :
    Calls Try.prog 6 #[.slice A0 l0.length c0, .slice A1 l1.length c1, .int .u8 a2] w fun e w' => e = .returned (.bool r) ∧ Below w.heap.size w w' := by
  unfold pascalinelaw29_TraceAhead.f at h
  by_cases hk : 1000 ≤ k ∧ tr_lined k l0 = true ∧ 0 ≤ a2 ∧ a2 ≤ 255
  · rw [if_pos hk] at h
    obtain rfl : r = true := by injection h with h; exact h.symm
    obtain ⟨hk, hli, ha0, ha1⟩ := hk
    clear h hk
    by_cases g0 : (200 : Int) < (l0.length : Int)
    · clear hr0 hr1 hc0 hc1 hli
      generalize l0.length = n0 at *
      generalize l1.length = n1 at *
      go_enter Try.func6, Try.ntmps6
      go_wp2_with (go_at_call 7; ((with_reducible refine (pascalinelaw29_awake.calls 20 true _ tr_awake).mono ?_)); rintro e w1 ⟨rfl, hb⟩; have HB1 := Aside0.mk hb; clear hb)
      go_ret
      exact ⟨rfl, HB1.out⟩
    have g0b : decide ((200 : Int) < (l0.length : Int)) = false := decide_eq_false g0
    by_cases g1 : (20 : Int) < (l1.length : Int)
    · clear hr0 hr1 hc0 hc1 hli g0
      generalize l0.length = n0 at *
      generalize l1.length = n1 at *
      go_enter Try.func6, Try.ntmps6
      go_wp2_with (go_at_call 7; ((with_reducible refine (pascalinelaw29_awake.calls 20 true _ tr_awake).mono ?_)); rintro e w1 ⟨rfl, hb⟩; have HB1 := Aside0.mk hb; clear hb)
      go_ret
      exact ⟨rfl, HB1.out⟩
    have g1b : decide ((20 : Int) < (l1.length : Int)) = false := decide_eq_false g1
    obtain ⟨m, hm⟩ : ∃ m : Nat, a2 % ((l0.length : Int) + 1) = (m : Int) := ⟨(a2 % ((l0.length : Int) + 1)).toNat, by have := Int.emod_nonneg a2 (show ((l0.length : Int) + 1) ≠ 0 by omega); omega⟩
    have hml : m ≤ l0.length := by have := Int.emod_lt_of_pos a2 (show 0 < ((l0.length : Int) + 1) by omega); omega
    have hmt : Int.tmod a2 ((l0.length : Int) + 1) = (m : Int) := by rw [Int.tmod_eq_emod_of_nonneg ha0]; exact hm
    have htk : (l0.take m).length = m := by rw [List.length_take]; omega
    have hdl : (l0.drop m).length = l0.length - m := List.length_drop
    obtain ⟨i0, hi0, _, hsz0, _⟩ := info_parts info27
    obtain ⟨A', hA'⟩ : ∃ A' : Option Addr, A' = if c0 = m then A0 else A0.map (·.add (m * 2)) := ⟨_, rfl⟩
    have hcf := cut_from (P := Try.prog) 22 27 .i64 Try.underlying22 hi0 2 hsz0 A0 l0.length c0 (m : Int) (by omega) (by omega)
    rw [Int.toNat_natCast, ← hA'] at hcf
    have hln := tr_until_len l1 l0
    have hpu := (tr_own 1000 (tr_until l1 l0) l0 (tr_until_take l1 l0) (by omega) hln (by omega)).2
    have hpm := (tr_own 1000 (l0.take m) l0 (by rw [htk]) (by omega) (by omega) (by omega)).2
    have H0 := Aside0.mk (And.intro hr0 hc0)
    have H1 := Aside0.mk (And.intro hr1 hc1)
    have HL := Aside0.mk hli
    have HT1 := Aside0.mk (show ∀ W, Below w.heap.size w W → Calls Try.prog 15 #[.slice A0 m c0] W fun e w' => e = .returned (.string ⟨(tx_lines (tr_line k) (l0.take m)).toArray⟩) ∧ Below W.heap.size W w' from fun W hW => by
      have h1 := trace_Text.calls k (tr_line k) A0 c0 (l0.take m) W (by omega) (fun x hx => tr_lined_at HL.out x (List.mem_of_mem_take hx)) (Kd.C_take (Kd.C_below H0.out.1 hW) hml)
      rwa [htk] at h1)
    have HT2 := Aside0.mk (show ∀ W, Below w.heap.size w W → Calls Try.prog 15 #[.slice A' (l0.length - m) (c0 - m)] W fun e w' => e = .returned (.string ⟨(tx_lines (tr_line k) (l0.drop m)).toArray⟩) ∧ Below W.heap.size W w' from fun W hW => by
      have hC := Kd.C_drop (c := c0) (Kd.C_below H0.out.1 hW) hml H0.out.2
      rw [show A' = (if c0 = m then A0 else A0.map (·.add (m * k27.sz))) from hA']
      have h1 := trace_Text.calls k (tr_line k) _ (c0 - m) (l0.drop m) W (by omega) (fun x hx => tr_lined_at HL.out x (List.mem_of_mem_drop hx)) hC
      rwa [hdl] at h1)
    have HT3 := Aside0.mk (show ∀ W, Below w.heap.size w W → Calls Try.prog 15 #[.slice A0 l0.length c0] W fun e w' => e = .returned (.string ⟨(tx_lines (tr_line k) l0).toArray⟩) ∧ Below W.heap.size W w' from fun W hW => trace_Text.calls k (tr_line k) A0 c0 l0 W (by omega) (fun x hx => tr_lined_at HL.out x hx) (Kd.C_below H0.out.1 hW))
    have HPM := Aside0.mk (show ∀ W, Below w.heap.size w W → Calls Try.prog 19 #[.slice A0 m c0, .slice A0 l0.length c0] W fun e w' => e = .returned (.bool true) ∧ Below W.heap.size W w' from fun W hW => by
      have h1 := trace_Prefix.calls 1000 A0 c0 (l0.take m) A0 c0 l0 true W (Kd.C_take (Kd.C_below H0.out.1 hW) hml) (by have := H0.out.2; omega) (Kd.C_below H0.out.1 hW) H0.out.2 hpm
      rw [htk] at h1
      exact h1.mono fun e w' ⟨h2, h3⟩ => ⟨h2, h3.below⟩)
    have HPN := Aside0.mk (show ∀ W, Below w.heap.size w W → Calls Try.prog 19 #[.slice none 0 0, .slice A0 l0.length c0] W fun e w' => e = .returned (.bool true) ∧ Below W.heap.size W w' from fun W hW =>
      (trace_Prefix.calls 1000 none 0 [] A0 c0 l0 true W (Kd.C_nil _ _) (Nat.le_refl _) (Kd.C_below H0.out.1 hW) H0.out.2 (tr_prefix_nil l0)).mono fun e w' ⟨h2, h3⟩ => ⟨h2, h3.below⟩)
    have hsz1 : ∀ l : List S27, l.length ≤ 1000 → tr_lined k l = true → (tx_lines (tr_line k) l).length ≤ 1001 * l.length := by
      intro l
      induction l with
      | nil => intro _ _; simp [tx_lines]
      | cons x l ih =>
        intro h1 h2
        have h3 := tr_lined_at h2 x (List.mem_cons_self ..)
        have h4 := ih (by simp at h1; omega) (by unfold tr_lined at h2 ⊢; rw [List.all_cons, Bool.and_eq_true] at h2; exact h2.2)
        unfold tx_lines at h4 ⊢
        rw [List.flatMap_cons, List.length_append, List.length_append, data_length, List.length_singleton, List.length_cons]
        omega
    have hcat : (⟨(tx_lines (tr_line k) (l0.take m)).toArray⟩ : ByteArray) ++ (⟨(tx_lines (tr_line k) (l0.drop m)).toArray⟩ : ByteArray) = (⟨(tx_lines (tr_line k) l0).toArray⟩ : ByteArray) := by
      have e : tx_lines (tr_line k) l0 = tx_lines (tr_line k) (l0.take m) ++ tx_lines (tr_line k) (l0.drop m) := by
        unfold tx_lines; rw [← List.flatMap_append, List.take_append_drop]
      rw [e]
      apply ByteArray.ext
      simp [ByteArray.data_append]
    have hs3 := hsz1 l0 (by omega) hli
    have hs4 : (⟨(tx_lines (tr_line k) l0).toArray⟩ : ByteArray).size ≤ 1001000 := by show (tx_lines (tr_line k) l0).toArray.size ≤ _; rw [List.size_toArray]; omega
    generalize (⟨(tx_lines (tr_line k) (l0.take m)).toArray⟩ : ByteArray) = t1 at HT1 hcat
    generalize (⟨(tx_lines (tr_line k) (l0.drop m)).toArray⟩ : ByteArray) = t2 at HT2 hcat
    generalize (⟨(tx_lines (tr_line k) l0).toArray⟩ : ByteArray) = t3 at HT3 hcat hs4
    have hs5 : t1.size + t2.size ≤ 1001000 := by rw [← ByteArray.size_append, hcat]; exact hs4
    have hszf : (9223372036854775807 < t1.size + t2.size) = False := eq_false (by omega)
    have hszd : decide (9223372036854775807 < t1.size + t2.size) = false := decide_eq_false (by omega)
    have HPU := Aside0.mk hpu
    have HLN := Aside0.mk hln
    have hL0 : l0.length ≤ 200 := by omega
    have hL1 : l1.length ≤ 20 := by omega
    have HLL := Aside0.mk (And.intro hL0 hL1)
    have hn0 : (l0.length : Int) ≤ 200 := by omega
    have hmi : (m : Int) ≤ (l0.length : Int) := by omega
    have hmc : m ≤ c0 := by omega
    have hm0 : (0 : Int) ≤ (m : Int) := by omega
    clear hr0 hr1 hc1 hli hpu hpm hln hsz1 hs3 hs4 g0 g1 hA' htk hdl hi0 hsz0 hL0 hL1
    go_enter Try.func6, Try.ntmps6
    go_wp2_with (first
      | (go_at_call 7; ((with_reducible refine (pascalinelaw29_awake.calls 20 true _ tr_awake).mono ?_)); rintro e w1 ⟨rfl, hb⟩; have HB1 := Aside0.mk hb; clear hb)
      | (go_at_call 22; ((with_reducible refine (trace_Until.calls A0 c0 l0 A1 c1 l1 _ (by have := HLL.out; omega) (by have := HLL.out; omega) (Kd.C_below H0.out.1 HB1.out) H0.out.2 (Kd.C_below H1.out.1 HB1.out) H1.out.2).mono ?_)); rintro e w4 ⟨v4, rfl, ho, hb⟩; obtain ⟨A4, c4, rfl⟩ := Kd.R_slice ho; have HB := Aside0.mk (below_step HB1.out hb); have HPA := Aside0.mk (show ∀ W, Below w4.heap.size w4 W → Calls Try.prog 19 #[.slice A4 (tr_until l1 l0).length c4, .slice A0 l0.length c0] W fun e w' => e = .returned (.bool true) ∧ Below W.heap.size W w' from fun W hW => (trace_Prefix.calls 1000 A4 c4 (tr_until l1 l0) A0 c0 l0 true W (Kd.C_below (Kd.R_reads' ho).2.2 hW) (Kd.R_reads' ho).2.1 (Kd.C_below H0.out.1 (below_step (below_step HB1.out hb) hW)) H0.out.2 HPU.out).mono fun e w' ⟨h2, h3⟩ => ⟨h2, h3.below⟩); clear hb ho))
    go_region_held3 (fun _ => True) (trivial)
      (first
        | (go_at_call 19; ((with_reducible refine (HPA.out _ ?hw).mono ?_)); (case hw => first | exact below_drew (Below.refl _ _) | exact Below.refl _ _); rintro e w5 ⟨rfl, hb⟩; have HB2 := Aside0.mk (below_step (below_drew1 HB.out) hb); clear HB; have HB := HB2; clear HB2 hb)
        | (go_at_call 19; ((with_reducible refine (HPN.out _ HB.out).mono ?_)); rintro e w6 ⟨rfl, hb⟩; have HB2 := Aside0.mk (below_step HB.out hb); clear HB; have HB := HB2; clear HB2 hb)
        | (go_at_call 19; ((with_reducible refine (HPM.out _ HB.out).mono ?_)); rintro e w7 ⟨rfl, hb⟩; have HB2 := Aside0.mk (below_step HB.out hb); clear HB; have HB := HB2; clear HB2 hb)
        | (go_at_call 15; ((with_reducible refine (HT1.out _ HB.out).mono ?_)); rintro e w8 ⟨rfl, hb⟩; have HB2 := Aside0.mk (below_step HB.out hb); clear HB; have HB := HB2; clear HB2 hb)
        | (go_at_call 15; ((with_reducible refine (HT2.out _ HB.out).mono ?_)); rintro e w9 ⟨rfl, hb⟩; have HB2 := Aside0.mk (below_step HB.out hb); clear HB; have HB := HB2; clear HB2 hb)
        | (go_at_call 15; ((with_reducible refine (HT3.out _ HB.out).mono ?_)); rintro e w10 ⟨rfl, hb⟩; have HB2 := Aside0.mk (below_step HB.out hb); clear HB; have HB := HB2; clear HB2 hb))
    all_goals
      go_wp2
      go_ret
      exact ⟨rfl, HB.out⟩
  · rw [if_neg hk] at h; exact absurd h (by simp)

end Go.Proofs.Ytajcopcmahidhaa.P

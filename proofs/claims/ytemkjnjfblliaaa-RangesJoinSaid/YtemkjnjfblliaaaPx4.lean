-- Written by a program of this session (wip/tools/hp.py) out of the translation.
import Derived.Test.YtemkjnjfblliaaaPx0
namespace Go.Proofs.Ytemkjnjfblliaaa.P
open Go.RowKit Go.Proofs.YtemkjnjfblliaaaW.PrintWords Go.Proofs.YtemkjnjfblliaaaW.PrintLast Go.Proofs.YtemkjnjfblliaaaW.PrintMore
attribute [local go_sem] max2_int min2_int max_two min_two max_three min_three max_four min_four   -- for this text's walks alone
set_option linter.unusedVariables false
set_option linter.unusedSimpArgs false

/-! ### ranges_Find: function 14 -/
/-- Where the search ends, between lo and hi; each round asks the middle. -/
def ranges_Find.bs (p : Nat → Bool) : Nat → Nat → Nat → Nat
  | 0, lo, _ => lo
  | k + 1, lo, hi => if lo < hi then (if p ((lo + hi) / 2) = true then ranges_Find.bs p k lo ((lo + hi) / 2) else ranges_Find.bs p k ((lo + hi) / 2 + 1) hi) else lo
theorem ranges_Find.bs_le (p : Nat → Bool) (k : Nat) : ∀ lo hi, lo ≤ hi → lo ≤ ranges_Find.bs p k lo hi ∧ ranges_Find.bs p k lo hi ≤ hi := by
  induction k with
  | zero => intro lo hi h; exact ⟨Nat.le_refl _, h⟩
  | succ k ih =>
    intro lo hi h
    unfold ranges_Find.bs
    by_cases h1 : lo < hi
    · rw [if_pos h1]
      by_cases h2 : p ((lo + hi) / 2) = true
      · rw [if_pos h2]; have := ih lo ((lo + hi) / 2) (by omega); omega
      · rw [if_neg h2]; have := ih ((lo + hi) / 2 + 1) hi (by omega); omega
    · rw [if_neg h1]; exact ⟨Nat.le_refl _, h⟩
theorem ranges_Find.bs_more (p : Nat → Bool) (k : Nat) : ∀ m lo hi, hi - lo ≤ k → hi - lo ≤ m → ranges_Find.bs p m lo hi = ranges_Find.bs p k lo hi := by
  induction k with
  | zero =>
    intro m lo hi h1 h2
    cases m with
    | zero => rfl
    | succ m => unfold ranges_Find.bs; rw [if_neg (by omega)]
  | succ k ih =>
    intro m lo hi h1 h2
    cases m with
    | zero => unfold ranges_Find.bs; rw [if_neg (by omega)]
    | succ m =>
      unfold ranges_Find.bs
      by_cases h : lo < hi
      · rw [if_pos h, if_pos h]
        by_cases hp : p ((lo + hi) / 2) = true
        · rw [if_pos hp, if_pos hp]; exact ih m _ _ (by omega) (by omega)
        · rw [if_neg hp, if_neg hp]; exact ih m _ _ (by omega) (by omega)
      · rw [if_neg h, if_neg h]
theorem ranges_Find.bs_at (p : Nat → Bool) (lo hi : Nat) (h : lo < hi) : ranges_Find.bs p (hi - lo) lo hi = if p ((lo + hi) / 2) = true then ranges_Find.bs p ((lo + hi) / 2 - lo) lo ((lo + hi) / 2) else ranges_Find.bs p (hi - ((lo + hi) / 2 + 1)) ((lo + hi) / 2 + 1) hi := by
  obtain ⟨k, e⟩ : ∃ k, hi - lo = k + 1 := ⟨hi - lo - 1, by omega⟩
  rw [e, ranges_Find.bs, if_pos h]
  by_cases hp : p ((lo + hi) / 2) = true
  · rw [if_pos hp, if_pos hp]; exact (ranges_Find.bs_more p _ _ _ _ (Nat.le_refl _) (by omega))
  · rw [if_neg hp, if_neg hp]; exact (ranges_Find.bs_more p _ _ _ _ (Nat.le_refl _) (by omega))
def ranges_Find.p (l0 : List S29) (a1 : Int) (i : Nat) : Bool := decide (a1 < (rd_T29 l0 i).f0)
def ranges_Find.at_ (l0 : List S29) (a1 : Int) : Nat := ranges_Find.bs (ranges_Find.p l0 a1) l0.length 0 l0.length
def ranges_Find.f (l0 : List S29) (a1 : Int) : Option Int := if l0.length < 4611686018427387904 then some (if ranges_Find.at_ l0 a1 = 0 then -1 else (rd_T29 l0 ((ranges_Find.at_ l0 a1 : Int) - 1)).f1) else none
set_option maxHeartbeats 1000000 in
set_option maxRecDepth 100000 in
theorem ranges_Find.closure (ba bx : Nat) (A0 : Option Addr) (c0 : Nat) (l0 : List S29) (a1 : Int) (i : Nat) (W : World) (hi : i < l0.length) (hr : Kd.C k29 W A0 l0.length l0) (hc : l0.length ≤ c0)
    (ha : W.cell? ⟨ba, 0, none⟩ = some (.slice A0 l0.length c0)) (hx : W.cell? ⟨bx, 0, none⟩ = some (.int .i64 a1)) :
    Calls Try.prog 26 #[.int .i64 i, .pointer (some ⟨ba, 0, none⟩), .pointer (some ⟨bx, 0, none⟩)] W fun e w' => e = .returned (.bool (ranges_Find.p l0 a1 i)) ∧ ∃ q, w' = W.drewN q := by
  obtain ⟨ad, e, hx0, _⟩ := at_T29 hr (i : Int) (by omega) (by omega)
  cases e
  rw [Int.toNat_natCast] at hx0
  unfold ranges_Find.p
  generalize (rd_T29 l0 (i : Int)).f0 = y at hx0 ⊢
  have hiz : (i : Int) < (l0.length : Int) := by omega
  have hiz0 : (0 : Int) ≤ (i : Int) := by omega
  clear hr
  generalize l0.length = n at *
  go_enter Try.func26, Try.ntmps26
  go_wp2
  go_region
  all_goals go_wp2
  all_goals go_ret
  all_goals exact ⟨by first | rfl | simp, 1, rfl⟩
set_option maxHeartbeats 1000000 in
set_option maxRecDepth 100000 in
theorem ranges_Find.search (cb : Array Value) (n : Nat) (p : Nat → Bool) (w : World) (hsz : n < 4611686018427387904)
    (hf : ∀ (m : Nat) (i : Nat), i < n → Calls Try.prog 26 (#[.int .i64 i] ++ cb) (w.drewN m) fun e w' => e = .returned (.bool (p i)) ∧ ∃ q, w' = (w.drewN m).drewN q) :
    Calls Try.prog 25 #[.int .i64 n, .func (.func 26) #[] cb] w fun e w' => e = .returned (.int .i64 (ranges_Find.bs p n 0 n : Nat)) ∧ ∃ q, w' = w.drewN q := by
  have HF := Aside0.mk hf
  clear hf
  obtain ⟨R, hR⟩ : ∃ R : Nat, R = ranges_Find.bs p n 0 n := ⟨_, rfl⟩
  rw [← hR]
  have HR := Aside0.mk hR
  clear hR
  go_enter Try.func25, Try.ntmps25
  go_wp2
  go_loopg [5, 6] n (fun kx s5 s6 wr => ∃ (lo hi q : Nat), s5 = .int .i64 lo ∧ s6 = .int .i64 hi ∧ lo ≤ hi ∧ hi ≤ n ∧ hi - lo ≤ kx ∧ wr = w.drewN q ∧ Aside0 (ranges_Find.bs p kx lo hi = R))
  case atStart => exact ⟨0, n, 0, rfl, rfl, Nat.zero_le _, Nat.le_refl _, by omega, rfl, ⟨HR.out.symm⟩⟩
  case round =>
    obtain ⟨lo, hi, q, rfl, rfl, hlh, hin, hg, rfl, I⟩ := hrel
    by_cases hlt : lo < hi
    · have hc := HF.out q ((lo + hi) / 2) (by omega)
      rw [show (((lo + hi) / 2 : Nat) : Int) = ((lo : Int) + (hi : Int)) / 2 by omega] at hc
      cases hp : p ((lo + hi) / 2) <;> rw [hp] at hc
      · have HP := Aside0.mk hp
        clear hp
        go_wp2_with (go_at_call 26; refine hc.mono ?_; rintro e w' ⟨rfl, nq, rfl⟩)
        go_roundg (hi - ((lo + hi) / 2 + 1))
        case measure => omega
        case rel =>
          have I2 : Aside0 (ranges_Find.bs p (hi - ((lo + hi) / 2 + 1)) ((lo + hi) / 2 + 1) hi = R) := ⟨by
            have e := I.out
            rw [← ranges_Find.bs_more p gk _ lo hi (by omega) (Nat.le_refl _), ranges_Find.bs_at p lo hi hlt, HP.out, if_neg (by simp)] at e
            exact e⟩
          exact ⟨(lo + hi) / 2 + 1, hi, q + nq, by rw [show ((lo : Int) + (hi : Int)) / 2 + 1 = (((lo + hi) / 2 + 1 : Nat) : Int) by omega], rfl, by omega, hin, Nat.le_refl _, rfl, I2⟩
      · have HP := Aside0.mk hp
        clear hp
        go_wp2_with (go_at_call 26; refine hc.mono ?_; rintro e w' ⟨rfl, nq, rfl⟩)
        go_roundg ((lo + hi) / 2 - lo)
        case measure => omega
        case rel =>
          have I2 : Aside0 (ranges_Find.bs p ((lo + hi) / 2 - lo) lo ((lo + hi) / 2) = R) := ⟨by
            have e := I.out
            rw [← ranges_Find.bs_more p gk _ lo hi (by omega) (Nat.le_refl _), ranges_Find.bs_at p lo hi hlt, HP.out, if_pos rfl] at e
            exact e⟩
          exact ⟨lo, (lo + hi) / 2, q + nq, rfl, by rw [show ((lo : Int) + (hi : Int)) / 2 = (((lo + hi) / 2 : Nat) : Int) by omega], by omega, by omega, Nat.le_refl _, rfl, I2⟩
    · obtain rfl : hi = lo := by omega
      have e := I.out
      have e2 : R = hi := by
        rw [← e]
        cases gk with
        | zero => rfl
        | succ k => unfold ranges_Find.bs; rw [if_neg (by omega)]
      have HE := Aside0.mk e2
      clear e e2
      have hd : decide ((hi : Int) < (hi : Int)) = false := by simp
      go_wp2
      go_ret
      exact ⟨by rw [HE.out]; rfl, q, rfl⟩
set_option maxHeartbeats 1000000 in
set_option maxRecDepth 100000 in
theorem ranges_Find.calls (A0 : Option Addr) (c0 : Nat) (l0 : List S29) (a1 : Int) (r : Int) (w : World) (hr0 : Kd.C k29 w A0 l0.length l0) (hc0 : l0.length ≤ c0) (h : ranges_Find.f l0 a1 = some r) :
    Calls Try.prog 14 #[.slice A0 l0.length c0, .int .i64 a1] w fun e w' => e = .returned (.int .i64 r) ∧ Below w.heap.size w w' := by
  unfold ranges_Find.f at h
  by_cases hn : l0.length < 4611686018427387904
  · rw [if_pos hn] at h
    injection h with h
    obtain ⟨W0, hW0⟩ : ∃ W0, W0 = (w.alloc (.cells #[.slice A0 l0.length c0] 22)).alloc (.cells #[.int .i64 a1] 3) := ⟨_, rfl⟩
    have hB0 : Below w.heap.size w W0 := by rw [hW0]; exact below_alloc (below_alloc (Below.refl _ _) _) _
    have ca : W0.cell? ⟨w.heap.size, 0, none⟩ = some (.slice A0 l0.length c0) := by rw [hW0]; go_simp
    have cx : W0.cell? ⟨w.heap.size + 1, 0, none⟩ = some (.int .i64 a1) := by rw [hW0]; go_simp
    have hr : Kd.C k29 W0 A0 l0.length l0 := by rw [hW0]; exact Kd.C_alloc (Kd.C_alloc hr0 _) _
    have hS := ranges_Find.search #[.pointer (some ⟨w.heap.size, 0, none⟩), .pointer (some ⟨w.heap.size + 1, 0, none⟩)] l0.length (ranges_Find.p l0 a1) W0 hn
      (fun m i hi => ranges_Find.closure w.heap.size (w.heap.size + 1) A0 c0 l0 a1 i _ hi hr hc0 ca cx)
    obtain ⟨m, hm⟩ : ∃ m, m = ranges_Find.bs (ranges_Find.p l0 a1) l0.length 0 l0.length := ⟨_, rfl⟩
    have hle := (ranges_Find.bs_le (ranges_Find.p l0 a1) l0.length 0 l0.length (Nat.zero_le _)).2
    rw [← hm] at hS hle
    have hat : ranges_Find.at_ l0 a1 = m := hm.symm
    rw [hat] at h
    have HR := Aside0.mk h
    have HB0 := Aside0.mk hB0
    have HW0 := Aside0.mk hW0
    have HHR := Aside0.mk hr
    clear h hB0 hW0 hr hr0 hm hat
    by_cases h0 : m = 0
    · subst h0
      have e : r = -1 := by rw [← HR.out]; rfl
      have HE := Aside0.mk e
      clear e
      go_enter Try.func14, Try.ntmps14
      go_wp2_with (go_at_call 25; rw [← HW0.out]; refine hS.mono ?_; rintro e w' ⟨rfl, q, rfl⟩)
      go_ret
      exact ⟨by rw [HE.out]; rfl, pw_below_drewN HB0.out _⟩
    · rw [if_neg h0] at HR
      obtain ⟨ad, e, hx0, hx1⟩ := at_T29 HHR.out ((m : Int) - 1) (by omega) (by omega)
      cases e
      rw [show ((m : Int) - 1).toNat = m - 1 by omega] at hx0 hx1
      obtain ⟨y, hy⟩ : ∃ y, y = (rd_T29 l0 ((m : Int) - 1)).f1 := ⟨_, rfl⟩
      rw [← hy] at hx1 HR
      clear hy hx0 HHR
      have hm1 : 1 ≤ m := by omega
      have hmz : decide ((m : Int) = 0) = false := by simp; omega
      have hsub : ((m : Int) - 1).toNat = m - 1 := by omega
      generalize l0.length = n at *
      go_enter Try.func14, Try.ntmps14
      go_wp2_with (go_at_call 25; rw [← HW0.out]; refine hS.mono ?_; rintro e w' ⟨rfl, q, rfl⟩)
      go_ret
      exact ⟨by rw [← HR.out]; rfl, pw_below_drewN HB0.out _⟩
  · rw [if_neg hn] at h; exact absurd h (by simp)

end Go.Proofs.Ytemkjnjfblliaaa.P

-- Written by a program of this session (wip/tools/hp.py) out of the translation.
import Derived.Test.YtmebogkhdbbbbaaPx0
import Derived.Test.YtmebogkhdbbbbaaPx5
import Derived.Test.YtmebogkhdbbbbaaPx6
namespace Go.Proofs.Ytmebogkhdbbbbaa.P
open Go.RowKit Go.Proofs.YtmebogkhdbbbbaaW.PrintWords Go.Proofs.YtmebogkhdbbbbaaW.PrintLast Go.Proofs.YtmebogkhdbbbbaaW.PrintMore
attribute [local go_sem] max2_int min2_int max_two min_two max_three min_three max_four min_four   -- for this text's walks alone
set_option linter.unusedVariables false
set_option linter.unusedSimpArgs false

/-! ### place_Index_At: function 20 -/
/-- The line of a byte, counted from 0 on, by halves. -/
def place_bis (L : List Int) (x : Int) : Nat → Nat → Nat → Nat
  | 0, lo, _ => lo
  | k + 1, lo, hi => if 1 < hi - lo then (if rd L (((lo + hi) / 2 : Nat) : Int) ≤ x then place_bis L x k ((lo + hi) / 2) hi else place_bis L x k lo ((lo + hi) / 2)) else lo
theorem place_bis_more (L : List Int) (x : Int) (k : Nat) : ∀ m lo hi, hi - lo ≤ k → hi - lo ≤ m → place_bis L x m lo hi = place_bis L x k lo hi := by
  induction k with
  | zero =>
    intro m lo hi h1 h2
    cases m with
    | zero => rfl
    | succ m => unfold place_bis; rw [if_neg (by omega)]
  | succ k ih =>
    intro m lo hi h1 h2
    cases m with
    | zero => unfold place_bis; rw [if_neg (by omega)]
    | succ m =>
      unfold place_bis
      by_cases h : 1 < hi - lo
      · rw [if_pos h, if_pos h, ih m _ _ (by omega) (by omega), ih m _ _ (by omega) (by omega)]
      · rw [if_neg h, if_neg h]
theorem place_bis_spec (L : List Int) (x : Int) (k : Nat) : ∀ lo hi, hi - lo ≤ k → lo < hi → hi ≤ L.length → rd L (lo : Int) ≤ x → (hi < L.length → x < rd L (hi : Int)) →
    place_bis L x k lo hi < L.length ∧ lo ≤ place_bis L x k lo hi ∧ rd L (place_bis L x k lo hi : Nat) ≤ x ∧ (place_bis L x k lo hi + 1 < L.length → x < rd L ((place_bis L x k lo hi + 1 : Nat) : Int)) := by
  induction k with
  | zero => intro lo hi h1 h2 h3 h4 h5; omega
  | succ k ih =>
    intro lo hi h1 h2 h3 h4 h5
    unfold place_bis
    by_cases h : 1 < hi - lo
    · rw [if_pos h]
      by_cases hp : rd L (((lo + hi) / 2 : Nat) : Int) ≤ x
      · rw [if_pos hp]
        have := ih ((lo + hi) / 2) hi (by omega) (by omega) h3 hp h5
        exact ⟨this.1, by omega, this.2.2⟩
      · rw [if_neg hp]
        exact ih lo ((lo + hi) / 2) (by omega) (by omega) (by omega) h4 (fun _ => by omega)
    · rw [if_neg h]
      have e : hi = lo + 1 := by omega
      subst e
      exact ⟨by omega, Nat.le_refl _, h4, h5⟩
def place_held (s : ByteArray) (off : Int) : Int := if off < 0 then 0 else if (s.size : Int) < off then s.size else off
def place_line (s : ByteArray) (L : List Int) (off : Int) : Nat := place_bis L (place_held s off) L.length 0 L.length
theorem place_line_spec (s : ByteArray) (L : List Int) (off : Int) (hG : place_Good s L) (h0 : rd L 0 = 0) : place_line s L off < L.length ∧ rd L (place_line s L off : Nat) ≤ place_held s off ∧ (place_line s L off + 1 < L.length → place_held s off < rd L ((place_line s L off + 1 : Nat) : Int)) := by
  have hx : 0 ≤ place_held s off := by unfold place_held; split <;> (try split) <;> omega
  have := place_bis_spec L (place_held s off) L.length 0 L.length (by omega) hG.pos (Nat.le_refl _) (by rw [show ((0 : Nat) : Int) = 0 from rfl, h0]; exact hx) (fun h => by omega)
  exact ⟨this.1, this.2.2.1, this.2.2.2⟩
theorem place_sts_zero (s : ByteArray) : ∀ n, rd (place_sts s n) 0 = 0
  | 0 => rfl
  | n + 1 => by
    unfold place_sts
    have h := (place_sts_len s n).1
    by_cases e : bt s (n : Int) = 10
    · rw [if_pos e, place_rd_left _ _ _ (by omega) (by omega)]; exact place_sts_zero s n
    · rw [if_neg e]; exact place_sts_zero s n
set_option maxHeartbeats 2000000 in
set_option maxRecDepth 100000 in
theorem place_At.calls (g : Nat) (s : ByteArray) (L : List Int) (off : Int) (w : World) (hI : place_Is w g s L) (hG : place_Good s L) (hz : rd L 0 = 0) :
    Calls Try.prog 20 #[.pointer (some ⟨g, 0, none⟩), .int .i64 off] w fun e w' => e = .returned (.tuple #[.int .i64 ((place_line s L off : Nat) + 1), .int .i64 (place_held s off - rd L (place_line s L off : Nat) + 1)]) ∧ Below w.heap.size w w' := by
  obtain ⟨A, c, hg, hlc, hC⟩ := hI
  have hc0 := blk_cell hg 0
  have hc1 := blk_cell hg 1
  simp at hc0 hc1
  have HG := Aside0.mk hG
  have HC := Aside0.mk hC
  have hsp := place_line_spec s L off hG hz
  obtain ⟨R, hR⟩ : ∃ R, R = place_line s L off := ⟨_, rfl⟩
  rw [← hR] at hsp ⊢
  have hh1 : (if (s.size : Int) < off then (s.size : Int) else off) = mn off (s.size : Int) := rfl
  have hx : place_held s off = (if 0 < mn off (s.size : Int) then mn off (s.size : Int) else 0) := by
    unfold place_held mn
    by_cases h1 : off < 0
    · rw [if_pos h1, if_neg (show ¬ (s.size : Int) < off by omega), if_neg (by omega)]
    · rw [if_neg h1]
      by_cases h2 : (s.size : Int) < off
      · rw [if_pos h2]; split <;> omega
      · rw [if_neg h2]; split <;> omega
  obtain ⟨x, hxx⟩ : ∃ x, place_held s off = x := ⟨_, rfl⟩
  have hxb : 0 ≤ x ∧ x ≤ 1000000 := by rw [← hxx]; have := hG.size; unfold place_held; split <;> (try split) <;> omega
  rw [hxx] at hx hsp ⊢
  have hR2 : R = place_bis L x L.length 0 L.length := by rw [hR]; unfold place_line; rw [hxx]
  have hh2 : (if 0 < mn off (s.size : Int) then mn off (s.size : Int) else 0) = x := hx.symm
  have HSP := Aside0.mk hsp
  have HR2 := Aside0.mk hR2
  have hx0 : 0 ≤ x := hxb.1
  have hx1 : x ≤ 1000000 := hxb.2
  have hL := hG.len
  have hL1 := hG.pos
  clear hx hsp hR hR2 hxb hxx hG hC hg
  generalize hm : mn off (s.size : Int) = m at hh1 hh2
  clear hm
  go_enter Try.func20, Try.ntmps20
  go_wp2
  repeat (go_quiet (fail); try go_wp2)
  go_loopg [6, 7] L.length (fun kx v6 v7 wr => ∃ (lo hi q : Nat), v6 = .int .i64 lo ∧ v7 = .int .i64 hi ∧ lo < hi ∧ hi ≤ L.length ∧ wr = w.drewN q ∧ Aside0 (hi - lo ≤ kx ∧ place_bis L x kx lo hi = R))
  case atStart => exact ⟨0, L.length, nq, rfl, rfl, by omega, Nat.le_refl _, rfl, ⟨⟨by omega, HR2.out.symm⟩⟩⟩
  case round =>
    obtain ⟨lo, hi, q, rfl, rfl, hlh, hil, rfl, I⟩ := hrel
    by_cases h : 1 < hi - lo
    · have hm : (((lo + hi) / 2 : Nat) : Int) = ((lo : Int) + (hi : Int)) / 2 := by omega
      obtain ⟨ad, e, hx⟩ := Kd.at_int HC.out (((lo : Int) + (hi : Int)) / 2) (by omega) (by omega)
      cases e
      have ht : (((lo : Int) + (hi : Int)) / 2).toNat = (lo + hi) / 2 := by omega
      rw [ht] at hx
      have hs1 : decide (1 < (hi : Int) - (lo : Int)) = true := decide_eq_true (by omega)
      have hq0 : 0 ≤ ((lo : Int) + (hi : Int)) / 2 := by omega
      have hq1 : ((lo : Int) + (hi : Int)) / 2 < (L.length : Int) := by omega
      obtain ⟨k1, hk1⟩ : ∃ k1, gk = k1 + 1 := ⟨gk - 1, by have := I.out.1; omega⟩
      have hb := I.out.2
      rw [hk1, place_bis, if_pos h, hm] at hb
      generalize hy : rd L (((lo : Int) + (hi : Int)) / 2) = y at hx hb
      clear hy
      by_cases hc : y ≤ x
      · rw [if_pos hc] at hb
        have HBB := Aside0.mk hb
        have HK := Aside0.mk hk1
        have hcb : decide (y ≤ x) = true := decide_eq_true hc
        clear hb hc hm hk1
        go_wp2
        repeat (go_quiet (fail); try go_wp2)
        go_roundg k1
        case measure => have := HK.out; omega
        case rel => exact ⟨(lo + hi) / 2, hi, q, by first | rfl | (congr 1; omega), rfl, by omega, hil, rfl, ⟨by have := I.out.1; have := HK.out; omega, HBB.out⟩⟩
      · rw [if_neg hc] at hb
        have HBB := Aside0.mk hb
        have HK := Aside0.mk hk1
        have hcb : decide (y ≤ x) = false := decide_eq_false hc
        clear hb hc hm hk1
        go_wp2
        repeat (go_quiet (fail); try go_wp2)
        go_roundg k1
        case measure => have := HK.out; omega
        case rel => exact ⟨lo, (lo + hi) / 2, q, rfl, by first | rfl | (congr 1; omega), by omega, by omega, rfl, ⟨by have := I.out.1; have := HK.out; omega, HBB.out⟩⟩
    · have hs1 : decide (1 < (hi : Int) - (lo : Int)) = false := decide_eq_false (by omega)
      have hb := I.out.2
      have e2 : lo = R := by
        rw [← hb]
        cases gk with
        | zero => rfl
        | succ k => unfold place_bis; rw [if_neg h]
      subst e2
      have hl := HG.out.low (lo : Int) (by omega) (by omega)
      obtain ⟨ad, e, hx⟩ := Kd.at_int HC.out (lo : Int) (by omega) (by omega)
      cases e
      rw [Int.toNat_natCast] at hx
      have hle := HSP.out.2.1
      generalize hy : rd L (lo : Int) = y at hx hl hle ⊢
      have HY := Aside0.mk hy
      have hy0 := hl.1
      have hy1 : y ≤ 1000000 := by have := HG.out.size; omega
      have hlo1 : (lo : Int) < (L.length : Int) := by omega
      have hlo0 : (0 : Int) ≤ (lo : Int) := by omega
      clear hb hl hy HSP I HR2
      go_wp2
      repeat (go_quiet (fail); try go_wp2)
      go_ret2
      exact ⟨by rw [HY.out]; rfl, pw_below_drewN (pw_below_drewN (Below.refl _ _) _) _⟩

end Go.Proofs.Ytmebogkhdbbbbaa.P

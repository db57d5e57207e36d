-- Written by a program of this session (wip/tools/hp.py) out of the translation.
import Derived.Test.YtbhccjoodlldbaaPx0
namespace Go.Proofs.Ytbhccjoodlldbaa.P
open Go.RowKit Go.Proofs.YtbhccjoodlldbaaW.PrintWords Go.Proofs.YtbhccjoodlldbaaW.PrintLast Go.Proofs.YtbhccjoodlldbaaW.PrintMore
attribute [local go_sem] max2_int min2_int max_two min_two max_three min_three max_four min_four   -- for this text's walks alone
set_option linter.unusedVariables false
set_option linter.unusedSimpArgs false

/-! ### slices_symMergeCmpFunc_int: function 30 -/
open Go.Sort Go.RowKit Go.Lib in
set_option maxHeartbeats 8000000 in
set_option maxRecDepth 1000000 in
theorem st_swr_calls {α : Type} [Inhabited α] (enc : α → Value) (blk off cap N : Nat) (d0 : Array α) (w0 : World) (R : Row1 enc w0 blk off d0) (h0 : d0.size = N) (hsz : N < 4611686018427387904) (d : Array α) (w : World) (hs : d.size = N) (S : SW enc w0 blk off d w) (a b n : Nat) (hab : a + n ≤ b) (hb : b + n ≤ N) (za zb zn : Int) (hza : za = a) (hzb : zb = b) (hzn : zn = n) (fv : Value) :
    Calls Try.prog 33 #[.slice (some ⟨blk, off, none⟩) N cap, .int .i64 za, .int .i64 zb, .int .i64 zn, fv] w fun e w' => e = .returned (.tuple #[]) ∧ ∃ d', d'.size = N ∧ SW enc w0 blk off d' w' ∧ C.StSwr a b n d d' ∧ PermIn a (b + n) d d' := by
  subst hza hzb hzn
  have S0 : Aside (SW enc w0 blk off d w) := S
  clear S
  have HS : Aside0 (d.size = N) := ⟨hs⟩
  have HD0 : Aside0 (d0.size = N) := ⟨h0⟩
  clear hs h0
  have mixed : Try.prog.follows .mixedOrders = true := by kernel_rfl
  have hcl0 := R.hO.cells
  simp only [Value.cells] at hcl0
  have hst := R.hO.store Try.prog
  go_enter Try.func33, Try.ntmps33
  go_wp2
  go_loopg [10] n (fun kx s10 wr => ∃ (i : Nat) (dk : Array α), s10 = .int .i64 i ∧ Aside0 (i + kx = n ∧ dk.size = N) ∧ Aside (SW enc w0 blk off dk wr) ∧ Hid (C.StSwr a b i d dk ∧ PermIn a (b + n) d dk))
  case atStart => exact ⟨0, d, rfl, ⟨by omega, HS.out⟩, S0, ⟨C.st_swr_start a b d, permIn_refl _ _ _⟩⟩
  case round =>
    clear S0
    obtain ⟨i, dk, rfl, HK, S1, HI⟩ := hrel
    by_cases hlt : i < n
    · have hltz : (i : Int) < (n : Int) := by omega
      go_wp2_with fail
      have q0 := HK.out.2
      have q1 := HD0.out
      obtain ⟨iN100, hiN100⟩ : ∃ q, q = a + i := ⟨_, rfl⟩
      obtain ⟨jN100, hjN100⟩ : ∃ q, q = b + i := ⟨_, rfl⟩
      have ea100 : ((a : Int) + (i : Int)).toNat = iN100 := by omega
      have pa100 : (0 : Int) ≤ (a : Int) + (i : Int) := by omega
      have ba100 : (a : Int) + (i : Int) < (N : Int) := by omega
      have ra100 : IntKind.i64.wrap ((a : Int) + (i : Int)) = (a : Int) + (i : Int) := by rw [IntKind.wrap_i64]; omega
      have ec100 : ((b : Int) + (i : Int)).toNat = jN100 := by omega
      have pc100 : (0 : Int) ≤ (b : Int) + (i : Int) := by omega
      have bc100 : (b : Int) + (i : Int) < (N : Int) := by omega
      have rc100 : IntKind.i64.wrap ((b : Int) + (i : Int)) = (b : Int) + (i : Int) := by rw [IntKind.wrap_i64]; omega
      obtain ⟨x100, hx100⟩ : ∃ x, x = dk[a + i]! := ⟨_, rfl⟩
      obtain ⟨y100, hy100⟩ : ∃ x, x = dk[b + i]! := ⟨_, rfl⟩
      have S2 : Aside (SW enc w0 blk off (swp dk (a + i) (b + i)) ((wr.setCell ⟨blk, off + iN100, none⟩ (enc y100)).setCell ⟨blk, off + jN100, none⟩ (enc x100)).drew) := by rw [hiN100, hjN100, hx100, hy100]; exact S1.out.swapped R (a + i) (b + i) (by omega) (by omega)
      have c100a := S1.out.c1 R (by omega) (a + i) (by omega)
      have c100b := S1.out.c1 R (by omega) (b + i) (by omega)
      have f100a := S1.out.f1 R (by omega) (a + i) (by omega)
      have f100b := S1.out.f1 R (by omega) (b + i) (by omega)
      obtain ⟨u100, c100c⟩ := S1.out.c2 R (by omega) (a + i) (b + i) (by omega) (by omega) (enc y100)
      rw [← hjN100, ← hiN100] at c100c
      rw [← hx100, ← hiN100] at c100a
      rw [← hy100, ← hjN100] at c100b
      rw [← hiN100] at f100a
      rw [← hjN100] at f100b
      clear S1 hx100 hy100 hiN100 hjN100
      clear q0 q1
      go_wp2_with fail
      go_big_region_o
      clear c100a c100b c100c f100a f100b
      generalize ((wr.setCell ⟨blk, off + iN100, none⟩ (enc y100)).setCell ⟨blk, off + jN100, none⟩ (enc x100)).drew = w2 at S2 ⊢
      clear ea100 ec100
      go_wp2
      go_roundg (n - (i + 1))
      case measure => have := HK.out; omega
      case rel =>
        have hk := HK.out
        have hd := HS.out
        exact ⟨i + 1, swp dk (a + i) (b + i), by first | rfl | go_num, ⟨by omega, by rw [swp_size]; exact hk.2⟩, S2, ⟨C.st_swr_step HI.out.1 (by omega) (by omega), permIn_trans _ _ _ _ _ HI.out.2 (swp_permIn dk a (b + n) (a + i) (b + i) (by omega) (by omega) (by omega) (by omega) (by omega))⟩⟩
    · have hltz : ¬ (i : Int) < (n : Int) := by omega
      have hin : i = n := by have := HK.out; omega
      have HN := Aside0.mk hin
      clear hin
      go_wp2
      go_end0
      have hin := HN.out
      subst hin
      exact ⟨rfl, dk, HK.out.2, S1.out, HI.out.1, HI.out.2⟩
open Go.Sort Go.RowKit Go.Lib in
set_option maxHeartbeats 8000000 in
set_option maxRecDepth 1000000 in
theorem st_rot_calls {α : Type} [Inhabited α] (enc : α → Value) (blk off cap N : Nat) (d0 : Array α) (w0 : World) (R : Row1 enc w0 blk off d0) (h0 : d0.size = N) (hsz : N < 4611686018427387904) (d : Array α) (w : World) (hs : d.size = N) (S : SW enc w0 blk off d w) (a m b : Nat) (ham : a < m) (hmb : m < b) (hb : b ≤ N) (za zm zb : Int) (hza : za = a) (hzm : zm = m) (hzb : zb = b) (fv : Value) :
    Calls Try.prog 32 #[.slice (some ⟨blk, off, none⟩) N cap, .int .i64 za, .int .i64 zm, .int .i64 zb, fv] w fun e w' => e = .returned (.tuple #[]) ∧ ∃ d', d'.size = N ∧ SW enc w0 blk off d' w' ∧ C.StRot a m b d d' ∧ PermIn a b d d' := by
  subst hza hzm hzb
  have S0 : Aside (SW enc w0 blk off d w) := S
  clear S
  have HS : Aside0 (d.size = N) := ⟨hs⟩
  have HD0 : Aside0 (d0.size = N) := ⟨h0⟩
  clear hs h0
  have mixed : Try.prog.follows .mixedOrders = true := by kernel_rfl
  have hcl0 := R.hO.cells
  simp only [Value.cells] at hcl0
  have hst := R.hO.store Try.prog
  have ra : IntKind.i64.wrap ((m : Int) - (a : Int)) = (m : Int) - (a : Int) := by rw [IntKind.wrap_i64]; omega
  have rb : IntKind.i64.wrap ((b : Int) - (m : Int)) = (b : Int) - (m : Int) := by rw [IntKind.wrap_i64]; omega
  go_enter Try.func32, Try.ntmps32
  go_wp2
  clear ra rb
  go_loopg [10, 11] (b - a) (fun kx s10 s11 wr => ∃ (i j : Nat) (dk : Array α), s10 = .int .i64 i ∧ s11 = .int .i64 j ∧ Aside0 (dk.size = N ∧ 0 < i ∧ 0 < j ∧ i ≤ m - a ∧ j ≤ b - m ∧ i + j ≤ kx) ∧ Aside (SW enc w0 blk off dk wr) ∧ Hid ((∀ d'', C.StRot (m - i) m (m + j) dk d'' → C.StRot a m b d d'') ∧ PermIn a b d dk))
  case atStart => exact ⟨m - a, b - m, d, by rw [show ((m - a : Nat) : Int) = (m : Int) - a by omega], by rw [show ((b - m : Nat) : Int) = (b : Int) - m by omega], ⟨HS.out, by omega, by omega, by omega, by omega, by omega⟩, S0, ⟨fun d'' h => by rw [show m - (m - a) = a by omega, show m + (b - m) = b by omega] at h; exact h, permIn_refl _ _ _⟩⟩
  case round =>
    clear S0
    obtain ⟨i, j, dk, rfl, rfl, HK, S1, HI⟩ := hrel
    have r1 : IntKind.i64.wrap ((m : Int) - (i : Int)) = (m : Int) - (i : Int) := by have := HK.out; rw [IntKind.wrap_i64]; omega
    rcases Nat.lt_trichotomy i j with hij | hij | hij
    · have g1 : ¬ ((i : Int) = (j : Int)) := by omega
      have g2 : ¬ ((j : Int) < (i : Int)) := by omega
      have r2 : IntKind.i64.wrap ((m : Int) + (j : Int)) = (m : Int) + (j : Int) := by have := HK.out; rw [IntKind.wrap_i64]; omega
      have r3 : IntKind.i64.wrap ((m : Int) + (j : Int) - (i : Int)) = (m : Int) + (j : Int) - (i : Int) := by have := HK.out; rw [IntKind.wrap_i64]; omega
      have r4 : IntKind.i64.wrap ((j : Int) - (i : Int)) = (j : Int) - (i : Int) := by have := HK.out; rw [IntKind.wrap_i64]; omega
      go_wp2_with (go_at_call 33; refine (st_swr_calls enc blk off cap N d0 w0 R HD0.out hsz dk _ HK.out.1 S1.out (m - i) (m + j - i) (i) (by have := HK.out; omega) (by have := HK.out; omega) _ _ _ (by have := HK.out; omega) (by have := HK.out; omega) (by have := HK.out; omega) _).mono ?_; rintro e w2 ⟨rfl, d2, hd2, hS2, hR2, hP2⟩; have H2 : Aside0 (d2.size = N) := ⟨hd2⟩; have S2 : Aside (SW enc w0 blk off d2 w2) := hS2; have HR2 : Hid (C.StSwr (m - i) (m + j - i) (i) dk d2) := hR2; have HP2 : Hid (PermIn (m - i) (m + j - i + i) dk d2) := hP2; clear hd2 hS2 hR2 hP2 S1)
      go_roundg (i + (j - i))
      case measure => have := HK.out; omega
      case rel =>
        have hk := HK.out
        refine ⟨i, j - i, d2, rfl, by rw [show ((j - i : Nat) : Int) = (j : Int) - i by omega], ⟨H2.out, by omega, by omega, by omega, by omega, by omega⟩, S2, ⟨fun d'' h => HI.out.1 d'' (C.st_rot_right hij (by omega) HR2.out (by rw [show m + j - i = m + (j - i) by omega]; exact h)), permIn_trans _ _ _ _ _ HI.out.2 (permIn_mono _ _ _ _ _ _ (by omega) (by omega) (by omega) HP2.out)⟩⟩
    · subst hij
      go_wp2_with (go_at_call 33; refine (st_swr_calls enc blk off cap N d0 w0 R HD0.out hsz dk _ HK.out.1 S1.out (m - i) (m) (i) (by have := HK.out; omega) (by have := HK.out; omega) _ _ _ (by have := HK.out; omega) (by have := HK.out; omega) (by have := HK.out; omega) _).mono ?_; rintro e w2 ⟨rfl, d2, hd2, hS2, hR2, hP2⟩; have H2 : Aside0 (d2.size = N) := ⟨hd2⟩; have S2 : Aside (SW enc w0 blk off d2 w2) := hS2; have HR2 : Hid (C.StSwr (m - i) (m) (i) dk d2) := hR2; have HP2 : Hid (PermIn (m - i) (m + i) dk d2) := hP2; clear hd2 hS2 hR2 hP2 S1)
      go_end0
      have hk := HK.out
      exact ⟨rfl, d2, H2.out, S2.out, HI.out.1 _ (C.st_rot_same (by omega) HR2.out), permIn_trans _ _ _ _ _ HI.out.2 (permIn_mono _ _ _ _ _ _ (by omega) (by omega) (by omega) HP2.out)⟩
    · have g1 : ¬ ((i : Int) = (j : Int)) := by omega
      have g2 : (j : Int) < (i : Int) := by omega
      have r4 : IntKind.i64.wrap ((i : Int) - (j : Int)) = (i : Int) - (j : Int) := by have := HK.out; rw [IntKind.wrap_i64]; omega
      go_wp2_with (go_at_call 33; refine (st_swr_calls enc blk off cap N d0 w0 R HD0.out hsz dk _ HK.out.1 S1.out (m - i) (m) (j) (by have := HK.out; omega) (by have := HK.out; omega) _ _ _ (by have := HK.out; omega) (by have := HK.out; omega) (by have := HK.out; omega) _).mono ?_; rintro e w2 ⟨rfl, d2, hd2, hS2, hR2, hP2⟩; have H2 : Aside0 (d2.size = N) := ⟨hd2⟩; have S2 : Aside (SW enc w0 blk off d2 w2) := hS2; have HR2 : Hid (C.StSwr (m - i) (m) (j) dk d2) := hR2; have HP2 : Hid (PermIn (m - i) (m + j) dk d2) := hP2; clear hd2 hS2 hR2 hP2 S1)
      go_roundg (i - j + j)
      case measure => have := HK.out; omega
      case rel =>
        have hk := HK.out
        refine ⟨i - j, j, d2, by rw [show ((i - j : Nat) : Int) = (i : Int) - j by omega], rfl, ⟨H2.out, by omega, by omega, by omega, by omega, by omega⟩, S2, ⟨fun d'' h => HI.out.1 d'' (C.st_rot_left hij (by omega) HR2.out (by rw [show m - i + j = m - (i - j) by omega]; exact h)), permIn_trans _ _ _ _ _ HI.out.2 (permIn_mono _ _ _ _ _ _ (by omega) (by omega) (by omega) HP2.out)⟩⟩
open Go.Sort Go.RowKit Go.Lib in
set_option maxHeartbeats 8000000 in
set_option maxRecDepth 1000000 in
theorem st_sym_1 {α : Type} [Inhabited α] (enc : α → Value) (blk off cap N : Nat) (d0 : Array α) (w0 : World) (R : Row1 enc w0 blk off d0) (h0 : d0.size = N) (hsz : N < 4611686018427387904) (cf : α → α → Int) (lt2 : α → α → Bool) (Q : α → α → Prop) (hO : SWO lt2) (hT : C.StTest (ltOf cf) lt2 Q) (g : Nat) (cb : Array Value) (eg : ∀ args w, (callFunc g args).run Try.prog w = .ok (.enter g args) w) (hcmp : CmpLays1 Try.prog g cb enc cf blk off N w0) (n a m b : Nat) (d : Array α) (w : World) (h1 : m = a + 1) : b - a ≤ n + 1 → d.size = N → SW enc w0 blk off d w → a < m → m < b → b ≤ N → SortedIn lt2 a m d → SortedIn lt2 m b d → C.StAc Q a m b d → ∀ (za zm zb : Int), za = a → zm = m → zb = b →
    Calls Try.prog 30 #[.slice (some ⟨blk, off, none⟩) N cap, .int .i64 za, .int .i64 zm, .int .i64 zb, .func (.func g) #[] cb] w fun e w' => e = .returned (.tuple #[]) ∧ ∃ d', d'.size = N ∧ SW enc w0 blk off d' w' ∧ PermIn a b d d' ∧ SortedIn lt2 a b d' := by
  intro hn hs S ham hmb hb hs1 hs2 hcc za zm zb hza hzm hzb
  subst hza hzm hzb
  have S0 : Aside (SW enc w0 blk off d w) := S
  clear S
  have HS : Aside0 (d.size = N) := ⟨hs⟩
  have HD0 : Aside0 (d0.size = N) := ⟨h0⟩
  have HC : Aside (CmpLays1 Try.prog g cb enc cf blk off N w0) := hcmp
  have HAM : Aside0 (a < m ∧ m < b ∧ b ≤ N ∧ N < 4611686018427387904) := ⟨ham, hmb, hb, hsz⟩
  have HAN : Aside0 (b - a ≤ n + 1) := ⟨hn⟩
  have HO : Aside0 (SWO lt2) := ⟨hO⟩
  have HTT : Aside0 (C.StTest (ltOf cf) lt2 Q) := ⟨hT⟩
  have HS1 : Hid (SortedIn lt2 a m d) := hs1
  have HS2 : Hid (SortedIn lt2 m b d) := hs2
  have HCC : Hid (C.StAc Q a m b d) := hcc
  clear hs h0 hcmp hn hO hT hs1 hs2 hcc
  have mixed : Try.prog.follows .mixedOrders = true := by kernel_rfl
  have hcl0 := R.hO.cells
  simp only [Value.cells] at hcl0
  have hst := R.hO.store Try.prog
  have ra : IntKind.i64.wrap ((m : Int) - (a : Int)) = (m : Int) - (a : Int) := by rw [IntKind.wrap_i64]; omega
  have rb : IntKind.i64.wrap ((b : Int) - (m : Int)) = (b : Int) - (m : Int) := by rw [IntKind.wrap_i64]; omega
  have bN : (b : Int) ≤ (N : Int) := by omega
  have mN : (m : Int) < (N : Int) := by omega
  have aN : (a : Int) < (N : Int) := by omega
  have HM1 : Aside0 (m = a + 1) := ⟨h1⟩
  have HS2' : Hid (SortedIn lt2 (a + 1) b d) := by rw [← h1]; exact HS2.out
  have HCC' : Hid (C.StAc Q a (a + 1) b d) := by rw [← h1]; exact HCC.out
  clear HS2 HCC HS1
  have HS2 := HS2'
  have HCC := HCC'
  clear HS2' HCC'
  have HMO := Aside0.mk (C.st_mono1 HO.out HTT.out HS2.out HCC.out)
  have hz : (m : Int) - (a : Int) = 1 := by omega
  clear h1 ham hmb hb
  go_enter Try.func30, Try.ntmps30
  go_wp2
  clear hz ra rb
  go_loopg [10, 11] (b - m) (fun kx x1 x2 wr => ∃ (i j : Nat), x1 = .int .i64 i ∧ x2 = .int .i64 j ∧ Aside0 (j - i ≤ kx ∧ m ≤ i ∧ i ≤ j ∧ j ≤ b) ∧ Aside (SW enc w0 blk off d wr) ∧ Hid (C.StBs (fun k => ltOf cf d[k]! d[a]!) (a + 1) b i j))
  case atStart => exact ⟨m, b, by first | rfl | (congr 1; omega), by first | rfl | (congr 1; omega), ⟨Nat.le_refl _, by have := HAM.out; omega⟩, S0, by rw [HM1.out]; exact C.st_bs_start _ (by have := HAM.out; have := HM1.out; omega)⟩
  case round =>
    clear S0
    obtain ⟨i, j, rfl, rfl, HK, S1, HI⟩ := hrel
    by_cases hlt : i < j
    · have hltz : (i : Int) < (j : Int) := by omega
      have hbi : (i : Int) ≤ (N : Int) := by have := HAM.out; have := HK.out; omega
      have hbj : (j : Int) ≤ (N : Int) := by have := HAM.out; have := HK.out; omega
      obtain ⟨c, hc⟩ : ∃ c : Nat, c = (i + j) / 2 := ⟨_, rfl⟩
      have zc : ((i : Int) + (j : Int)) / 2 = (c : Int) := by omega
      have HC2 : Aside0 (i ≤ c ∧ c < j) := ⟨by omega, by omega⟩
      clear hc
      cases hv : ltOf cf d[c]! d[a]! with
      | true =>
        have HV : Hid (ltOf cf d[c]! d[a]! = true) := hv
        have q0 := HS.out
        have q1 := HD0.out
        have q2 := HAM.out
        have q3 := HC2.out
        have q4 := HK.out
        obtain ⟨iN102, hiN102⟩ : ∃ q, q = c := ⟨_, rfl⟩
        obtain ⟨jN102, hjN102⟩ : ∃ q, q = a := ⟨_, rfl⟩
        have ea102 : ((c : Int)).toNat = iN102 := by omega
        have pa102 : (0 : Int) ≤ (c : Int) := by omega
        have ba102 : (c : Int) < (N : Int) := by omega
        have ra102 : IntKind.i64.wrap ((c : Int)) = (c : Int) := by rw [IntKind.wrap_i64]; omega
        have ec102 : ((a : Int)).toNat = jN102 := by omega
        have pc102 : (0 : Int) ≤ (a : Int) := by omega
        have bc102 : (a : Int) < (N : Int) := by omega
        have rc102 : IntKind.i64.wrap ((a : Int)) = (a : Int) := by rw [IntKind.wrap_i64]; omega
        obtain ⟨x102, hx102⟩ : ∃ x, x = d[c]! := ⟨_, rfl⟩
        obtain ⟨y102, hy102⟩ : ∃ x, x = d[a]! := ⟨_, rfl⟩
        have l102a := S1.out.cl R (by omega) (c) (by omega)
        have l102b := S1.out.cl R (by omega) (a) (by omega)
        rw [← hx102, ← hiN102] at l102a
        rw [← hy102, ← hjN102] at l102b
        have hc102 := S1.out.cmp HC.out (by omega) x102 y102
        have hv102 : cf x102 y102 < 0 := by rw [hx102, hy102]; exact of_decide_eq_true hv
        have hd102 : decide (cf x102 y102 < 0) = true := decide_eq_true hv102
        clear hx102 hy102 hiN102 hjN102 q0 q1 q2 q3 q4
        go_wp2_with fail
        go_quiet_grown (first | (go_at_fn g; refine Calls.grown_of (hc102 _ _)))
        have S2 : Aside (SW enc w0 blk off d (grow (wr.drewN nq) osq)) := S1.out.grown nq osq
        clear l102a l102b hc102 S1
        generalize grow (wr.drewN nq) osq = w2 at S2 ⊢
        clear nq osq
        clear ea102 ec102
        go_wp2
        go_roundg (j - (c + 1))
        case measure => have := HC2.out; have := HK.out; omega
        case rel =>
          refine ⟨c + 1, j, by first | rfl | go_num | (congr 1; omega), rfl, ⟨by have := HC2.out; omega, by have := HC2.out; have := HK.out; omega, by have := HK.out; omega⟩, S2, (show Hid _ from ?_)⟩
          show C.StBs _ _ _ _ _
          refine C.st_bs_up HMO.out HI.out (by have := HK.out; have := HC2.out; omega) (by have := HC2.out; omega) ?_
          exact HV.out
      | false =>
        have HV : Hid (ltOf cf d[c]! d[a]! = false) := hv
        have q0 := HS.out
        have q1 := HD0.out
        have q2 := HAM.out
        have q3 := HC2.out
        have q4 := HK.out
        obtain ⟨iN103, hiN103⟩ : ∃ q, q = c := ⟨_, rfl⟩
        obtain ⟨jN103, hjN103⟩ : ∃ q, q = a := ⟨_, rfl⟩
        have ea103 : ((c : Int)).toNat = iN103 := by omega
        have pa103 : (0 : Int) ≤ (c : Int) := by omega
        have ba103 : (c : Int) < (N : Int) := by omega
        have ra103 : IntKind.i64.wrap ((c : Int)) = (c : Int) := by rw [IntKind.wrap_i64]; omega
        have ec103 : ((a : Int)).toNat = jN103 := by omega
        have pc103 : (0 : Int) ≤ (a : Int) := by omega
        have bc103 : (a : Int) < (N : Int) := by omega
        have rc103 : IntKind.i64.wrap ((a : Int)) = (a : Int) := by rw [IntKind.wrap_i64]; omega
        obtain ⟨x103, hx103⟩ : ∃ x, x = d[c]! := ⟨_, rfl⟩
        obtain ⟨y103, hy103⟩ : ∃ x, x = d[a]! := ⟨_, rfl⟩
        have l103a := S1.out.cl R (by omega) (c) (by omega)
        have l103b := S1.out.cl R (by omega) (a) (by omega)
        rw [← hx103, ← hiN103] at l103a
        rw [← hy103, ← hjN103] at l103b
        have hc103 := S1.out.cmp HC.out (by omega) x103 y103
        have hv103 : ¬ cf x103 y103 < 0 := by rw [hx103, hy103]; exact of_decide_eq_false hv
        have hd103 : decide (cf x103 y103 < 0) = false := decide_eq_false hv103
        clear hx103 hy103 hiN103 hjN103 q0 q1 q2 q3 q4
        go_wp2_with fail
        go_quiet_grown (first | (go_at_fn g; refine Calls.grown_of (hc103 _ _)))
        have S2 : Aside (SW enc w0 blk off d (grow (wr.drewN nq) osq)) := S1.out.grown nq osq
        clear l103a l103b hc103 S1
        generalize grow (wr.drewN nq) osq = w2 at S2 ⊢
        clear nq osq
        clear ea103 ec103
        go_wp2
        go_roundg (c - i)
        case measure => have := HC2.out; have := HK.out; omega
        case rel =>
          refine ⟨i, c, rfl, rfl, ⟨by have := HC2.out; have := HK.out; omega, by have := HC2.out; have := HK.out; omega, by have := HC2.out; have := HK.out; omega⟩, S2, (show Hid _ from ?_)⟩
          show C.StBs _ _ _ _ _
          refine C.st_bs_down HMO.out HI.out (by have := HK.out; have := HC2.out; omega) (by have := HC2.out; omega) ?_
          exact HV.out
    · have hltz : ¬ (i : Int) < (j : Int) := by omega
      have hij : i = j := by have := HK.out; omega
      subst hij
      have HSI : Hid (C.StBs (fun k => ltOf cf d[k]! d[a]!) (a + 1) b i i) := HI
      have HII : Aside0 (a + 1 ≤ i ∧ i ≤ b) := ⟨by have := HK.out; have := HAM.out; omega, by have := HK.out; omega⟩
      have ri : IntKind.i64.wrap ((i : Int) - 1) = (i : Int) - 1 := by have := HII.out; have := HAM.out; rw [IntKind.wrap_i64]; omega
      clear HI hltz HK
      go_wp2_with fail
      go_loopg [13] (i - 1 - a) (fun kx x1 wr => ∃ (k : Nat) (dk : Array α), x1 = .int .i64 k ∧ Aside0 (k + kx = i - 1 ∧ a ≤ k ∧ dk.size = N) ∧ Aside (SW enc w0 blk off dk wr) ∧ Hid (C.StSh1 d a k dk ∧ PermIn a b d dk))
      case atStart => exact ⟨a, d, rfl, ⟨by have := HII.out; omega, Nat.le_refl _, HS.out⟩, S1, ⟨C.st_sh1_start d a, permIn_refl _ _ _⟩⟩
      case round =>
        clear S1
        obtain ⟨k, dk, rfl, HK, S3, HI⟩ := hrel
        by_cases hlt : k < i - 1
        · have hltz : (k : Int) < (i : Int) - 1 := by omega
          go_wp2_with fail
          have q0 := HK.out
          have q1 := HD0.out
          have q2 := HII.out
          have q3 := HAM.out
          obtain ⟨iN101, hiN101⟩ : ∃ q, q = k := ⟨_, rfl⟩
          obtain ⟨jN101, hjN101⟩ : ∃ q, q = k + 1 := ⟨_, rfl⟩
          have ea101 : ((k : Int)).toNat = iN101 := by omega
          have pa101 : (0 : Int) ≤ (k : Int) := by omega
          have ba101 : (k : Int) < (N : Int) := by omega
          have ra101 : IntKind.i64.wrap ((k : Int)) = (k : Int) := by rw [IntKind.wrap_i64]; omega
          have ec101 : ((k : Int) + 1).toNat = jN101 := by omega
          have pc101 : (0 : Int) ≤ (k : Int) + 1 := by omega
          have bc101 : (k : Int) + 1 < (N : Int) := by omega
          have rc101 : IntKind.i64.wrap ((k : Int) + 1) = (k : Int) + 1 := by rw [IntKind.wrap_i64]; omega
          obtain ⟨x101, hx101⟩ : ∃ x, x = dk[k]! := ⟨_, rfl⟩
          obtain ⟨y101, hy101⟩ : ∃ x, x = dk[k + 1]! := ⟨_, rfl⟩
          have S4 : Aside (SW enc w0 blk off (swp dk (k) (k + 1)) ((wr.setCell ⟨blk, off + iN101, none⟩ (enc y101)).setCell ⟨blk, off + jN101, none⟩ (enc x101)).drew) := by rw [hiN101, hjN101, hx101, hy101]; exact S3.out.swapped R (k) (k + 1) (by omega) (by omega)
          have c101a := S3.out.c1 R (by omega) (k) (by omega)
          have c101b := S3.out.c1 R (by omega) (k + 1) (by omega)
          have f101a := S3.out.f1 R (by omega) (k) (by omega)
          have f101b := S3.out.f1 R (by omega) (k + 1) (by omega)
          obtain ⟨u101, c101c⟩ := S3.out.c2 R (by omega) (k) (k + 1) (by omega) (by omega) (enc y101)
          rw [← hjN101, ← hiN101] at c101c
          rw [← hx101, ← hiN101] at c101a
          rw [← hy101, ← hjN101] at c101b
          rw [← hiN101] at f101a
          rw [← hjN101] at f101b
          clear S3 hx101 hy101 hiN101 hjN101
          clear q0 q1 q2 q3
          go_wp2_with fail
          go_big_region_o
          clear c101a c101b c101c f101a f101b
          generalize ((wr.setCell ⟨blk, off + iN101, none⟩ (enc y101)).setCell ⟨blk, off + jN101, none⟩ (enc x101)).drew = w4 at S4 ⊢
          clear ea101 ec101
          go_wp2
          go_roundg (i - 1 - (k + 1))
          case measure => have := HK.out; omega
          case rel =>
            have hk := HK.out
            have hd := HS.out
            have hii := HII.out
            have ham := HAM.out
            exact ⟨k + 1, swp dk k (k + 1), by first | rfl | go_num, ⟨by omega, by omega, by rw [swp_size]; exact hk.2.2⟩, S4, ⟨C.st_sh1_step HI.out.1 hk.2.1 (by omega), permIn_trans _ _ _ _ _ HI.out.2 (swp_permIn dk a b k (k + 1) (by omega) (by omega) (by omega) (by omega) (by omega))⟩⟩
        · have hltz : ¬ (k : Int) < (i : Int) - 1 := by have := HII.out; omega
          have HKE : Aside0 (k = i - 1) := ⟨by have := HK.out; omega⟩
          go_wp2
          refine bodyPost_ret (results_none rfl _ _ _) rfl ?_
          exact ⟨rfl, dk, HK.out.2.2, S3.out, HI.out.2, C.st_sh1_end HO.out HTT.out HS2.out HCC.out HSI.out (HKE.out ▸ HI.out.1)⟩
open Go.Sort Go.RowKit Go.Lib in
set_option maxHeartbeats 8000000 in
set_option maxRecDepth 1000000 in
theorem st_sym_2 {α : Type} [Inhabited α] (enc : α → Value) (blk off cap N : Nat) (d0 : Array α) (w0 : World) (R : Row1 enc w0 blk off d0) (h0 : d0.size = N) (hsz : N < 4611686018427387904) (cf : α → α → Int) (lt2 : α → α → Bool) (Q : α → α → Prop) (hO : SWO lt2) (hT : C.StTest (ltOf cf) lt2 Q) (g : Nat) (cb : Array Value) (eg : ∀ args w, (callFunc g args).run Try.prog w = .ok (.enter g args) w) (hcmp : CmpLays1 Try.prog g cb enc cf blk off N w0) (n a m b : Nat) (d : Array α) (w : World) (h1 : ¬ m = a + 1) (h2 : b = m + 1) : b - a ≤ n + 1 → d.size = N → SW enc w0 blk off d w → a < m → m < b → b ≤ N → SortedIn lt2 a m d → SortedIn lt2 m b d → C.StAc Q a m b d → ∀ (za zm zb : Int), za = a → zm = m → zb = b →
    Calls Try.prog 30 #[.slice (some ⟨blk, off, none⟩) N cap, .int .i64 za, .int .i64 zm, .int .i64 zb, .func (.func g) #[] cb] w fun e w' => e = .returned (.tuple #[]) ∧ ∃ d', d'.size = N ∧ SW enc w0 blk off d' w' ∧ PermIn a b d d' ∧ SortedIn lt2 a b d' := by
  intro hn hs S ham hmb hb hs1 hs2 hcc za zm zb hza hzm hzb
  subst hza hzm hzb
  have S0 : Aside (SW enc w0 blk off d w) := S
  clear S
  have HS : Aside0 (d.size = N) := ⟨hs⟩
  have HD0 : Aside0 (d0.size = N) := ⟨h0⟩
  have HC : Aside (CmpLays1 Try.prog g cb enc cf blk off N w0) := hcmp
  have HAM : Aside0 (a < m ∧ m < b ∧ b ≤ N ∧ N < 4611686018427387904) := ⟨ham, hmb, hb, hsz⟩
  have HAN : Aside0 (b - a ≤ n + 1) := ⟨hn⟩
  have HO : Aside0 (SWO lt2) := ⟨hO⟩
  have HTT : Aside0 (C.StTest (ltOf cf) lt2 Q) := ⟨hT⟩
  have HS1 : Hid (SortedIn lt2 a m d) := hs1
  have HS2 : Hid (SortedIn lt2 m b d) := hs2
  have HCC : Hid (C.StAc Q a m b d) := hcc
  clear hs h0 hcmp hn hO hT hs1 hs2 hcc
  have mixed : Try.prog.follows .mixedOrders = true := by kernel_rfl
  have hcl0 := R.hO.cells
  simp only [Value.cells] at hcl0
  have hst := R.hO.store Try.prog
  have ra : IntKind.i64.wrap ((m : Int) - (a : Int)) = (m : Int) - (a : Int) := by rw [IntKind.wrap_i64]; omega
  have rb : IntKind.i64.wrap ((b : Int) - (m : Int)) = (b : Int) - (m : Int) := by rw [IntKind.wrap_i64]; omega
  have bN : (b : Int) ≤ (N : Int) := by omega
  have mN : (m : Int) < (N : Int) := by omega
  have aN : (a : Int) < (N : Int) := by omega
  have hz : ¬ ((m : Int) - (a : Int) = 1) := by omega
  have hzb : ((m : Int) - (a : Int) == 1) = false := beq_eq_false_iff_ne.mpr hz
  have HB1 : Aside0 (b = m + 1) := ⟨h2⟩
  have HCC' : Hid (C.StAc Q a m (m + 1) d) := by rw [← h2]; exact HCC.out
  clear HCC HS2
  have HCC := HCC'
  clear HCC'
  have HMO := Aside0.mk (C.st_mono2 HO.out HTT.out HS1.out HCC.out)
  have hz2 : (b : Int) - (m : Int) = 1 := by omega
  clear h1 h2 ham hmb hb
  go_enter Try.func30, Try.ntmps30
  go_wp2
  clear hz hzb hz2 ra rb
  go_loopg [14, 15] (m - a) (fun kx x1 x2 wr => ∃ (i j : Nat), x1 = .int .i64 i ∧ x2 = .int .i64 j ∧ Aside0 (j - i ≤ kx ∧ a ≤ i ∧ i ≤ j ∧ j ≤ m) ∧ Aside (SW enc w0 blk off d wr) ∧ Hid (C.StBs (fun k => !ltOf cf d[m]! d[k]!) a m i j))
  case atStart => exact ⟨a, m, by first | rfl | (congr 1; omega), by first | rfl | (congr 1; omega), ⟨Nat.le_refl _, by have := HAM.out; omega⟩, S0, C.st_bs_start _ (by have := HAM.out; omega)⟩
  case round =>
    clear S0
    obtain ⟨i, j, rfl, rfl, HK, S1, HI⟩ := hrel
    by_cases hlt : i < j
    · have hltz : (i : Int) < (j : Int) := by omega
      have hbi : (i : Int) ≤ (N : Int) := by have := HAM.out; have := HK.out; omega
      have hbj : (j : Int) ≤ (N : Int) := by have := HAM.out; have := HK.out; omega
      obtain ⟨c, hc⟩ : ∃ c : Nat, c = (i + j) / 2 := ⟨_, rfl⟩
      have zc : ((i : Int) + (j : Int)) / 2 = (c : Int) := by omega
      have HC2 : Aside0 (i ≤ c ∧ c < j) := ⟨by omega, by omega⟩
      clear hc
      cases hv : ltOf cf d[m]! d[c]! with
      | true =>
        have HV : Hid (ltOf cf d[m]! d[c]! = true) := hv
        have q0 := HS.out
        have q1 := HD0.out
        have q2 := HAM.out
        have q3 := HC2.out
        have q4 := HK.out
        obtain ⟨iN105, hiN105⟩ : ∃ q, q = m := ⟨_, rfl⟩
        obtain ⟨jN105, hjN105⟩ : ∃ q, q = c := ⟨_, rfl⟩
        have ea105 : ((m : Int)).toNat = iN105 := by omega
        have pa105 : (0 : Int) ≤ (m : Int) := by omega
        have ba105 : (m : Int) < (N : Int) := by omega
        have ra105 : IntKind.i64.wrap ((m : Int)) = (m : Int) := by rw [IntKind.wrap_i64]; omega
        have ec105 : ((c : Int)).toNat = jN105 := by omega
        have pc105 : (0 : Int) ≤ (c : Int) := by omega
        have bc105 : (c : Int) < (N : Int) := by omega
        have rc105 : IntKind.i64.wrap ((c : Int)) = (c : Int) := by rw [IntKind.wrap_i64]; omega
        obtain ⟨x105, hx105⟩ : ∃ x, x = d[m]! := ⟨_, rfl⟩
        obtain ⟨y105, hy105⟩ : ∃ x, x = d[c]! := ⟨_, rfl⟩
        have l105a := S1.out.cl R (by omega) (m) (by omega)
        have l105b := S1.out.cl R (by omega) (c) (by omega)
        rw [← hx105, ← hiN105] at l105a
        rw [← hy105, ← hjN105] at l105b
        have hc105 := S1.out.cmp HC.out (by omega) x105 y105
        have hv105 : cf x105 y105 < 0 := by rw [hx105, hy105]; exact of_decide_eq_true hv
        have hd105 : decide (cf x105 y105 < 0) = true := decide_eq_true hv105
        clear hx105 hy105 hiN105 hjN105 q0 q1 q2 q3 q4
        go_wp2_with fail
        go_quiet_grown (first | (go_at_fn g; refine Calls.grown_of (hc105 _ _)))
        have S2 : Aside (SW enc w0 blk off d (grow (wr.drewN nq) osq)) := S1.out.grown nq osq
        clear l105a l105b hc105 S1
        generalize grow (wr.drewN nq) osq = w2 at S2 ⊢
        clear nq osq
        clear ea105 ec105
        go_wp2
        go_roundg (c - i)
        case measure => have := HC2.out; have := HK.out; omega
        case rel =>
          refine ⟨i, c, rfl, rfl, ⟨by have := HC2.out; have := HK.out; omega, by have := HC2.out; have := HK.out; omega, by have := HC2.out; have := HK.out; omega⟩, S2, (show Hid _ from ?_)⟩
          show C.StBs _ _ _ _ _
          refine C.st_bs_down HMO.out HI.out (by have := HK.out; have := HC2.out; omega) (by have := HC2.out; omega) ?_
          exact (by show (!ltOf cf d[m]! d[c]!) = _; rw [HV.out]; rfl)
      | false =>
        have HV : Hid (ltOf cf d[m]! d[c]! = false) := hv
        have q0 := HS.out
        have q1 := HD0.out
        have q2 := HAM.out
        have q3 := HC2.out
        have q4 := HK.out
        obtain ⟨iN106, hiN106⟩ : ∃ q, q = m := ⟨_, rfl⟩
        obtain ⟨jN106, hjN106⟩ : ∃ q, q = c := ⟨_, rfl⟩
        have ea106 : ((m : Int)).toNat = iN106 := by omega
        have pa106 : (0 : Int) ≤ (m : Int) := by omega
        have ba106 : (m : Int) < (N : Int) := by omega
        have ra106 : IntKind.i64.wrap ((m : Int)) = (m : Int) := by rw [IntKind.wrap_i64]; omega
        have ec106 : ((c : Int)).toNat = jN106 := by omega
        have pc106 : (0 : Int) ≤ (c : Int) := by omega
        have bc106 : (c : Int) < (N : Int) := by omega
        have rc106 : IntKind.i64.wrap ((c : Int)) = (c : Int) := by rw [IntKind.wrap_i64]; omega
        obtain ⟨x106, hx106⟩ : ∃ x, x = d[m]! := ⟨_, rfl⟩
        obtain ⟨y106, hy106⟩ : ∃ x, x = d[c]! := ⟨_, rfl⟩
        have l106a := S1.out.cl R (by omega) (m) (by omega)
        have l106b := S1.out.cl R (by omega) (c) (by omega)
        rw [← hx106, ← hiN106] at l106a
        rw [← hy106, ← hjN106] at l106b
        have hc106 := S1.out.cmp HC.out (by omega) x106 y106
        have hv106 : ¬ cf x106 y106 < 0 := by rw [hx106, hy106]; exact of_decide_eq_false hv
        have hd106 : decide (cf x106 y106 < 0) = false := decide_eq_false hv106
        clear hx106 hy106 hiN106 hjN106 q0 q1 q2 q3 q4
        go_wp2_with fail
        go_quiet_grown (first | (go_at_fn g; refine Calls.grown_of (hc106 _ _)))
        have S2 : Aside (SW enc w0 blk off d (grow (wr.drewN nq) osq)) := S1.out.grown nq osq
        clear l106a l106b hc106 S1
        generalize grow (wr.drewN nq) osq = w2 at S2 ⊢
        clear nq osq
        clear ea106 ec106
        go_wp2
        go_roundg (j - (c + 1))
        case measure => have := HC2.out; have := HK.out; omega
        case rel =>
          refine ⟨c + 1, j, by first | rfl | go_num | (congr 1; omega), rfl, ⟨by have := HC2.out; omega, by have := HC2.out; have := HK.out; omega, by have := HK.out; omega⟩, S2, (show Hid _ from ?_)⟩
          show C.StBs _ _ _ _ _
          refine C.st_bs_up HMO.out HI.out (by have := HK.out; have := HC2.out; omega) (by have := HC2.out; omega) ?_
          exact (by show (!ltOf cf d[m]! d[c]!) = _; rw [HV.out]; rfl)
    · have hltz : ¬ (i : Int) < (j : Int) := by omega
      have hij : i = j := by have := HK.out; omega
      subst hij
      have HSI : Hid (C.StBs (fun k => !ltOf cf d[m]! d[k]!) a m i i) := HI
      have HII : Aside0 (a ≤ i ∧ i ≤ m) := ⟨by have := HK.out; omega, by have := HK.out; omega⟩
      clear HI hltz HK
      go_wp2_with fail
      go_loopg [17] (m - i) (fun kx x1 wr => ∃ (k : Nat) (dk : Array α), x1 = .int .i64 k ∧ Aside0 (k = kx + i ∧ k ≤ m ∧ dk.size = N) ∧ Aside (SW enc w0 blk off dk wr) ∧ Hid (C.StSh2 d m k dk ∧ PermIn a b d dk))
      case atStart => exact ⟨m, d, rfl, ⟨by have := HII.out; omega, Nat.le_refl _, HS.out⟩, S1, ⟨C.st_sh2_start d m, permIn_refl _ _ _⟩⟩
      case round =>
        clear S1
        obtain ⟨k, dk, rfl, HK, S3, HI⟩ := hrel
        by_cases hlt : i < k
        · obtain ⟨kp, hkp⟩ : ∃ q, q + 1 = k := ⟨k - 1, by omega⟩
          have zkp : (k : Int) = (kp : Int) + 1 := by omega
          have hltz : (i : Int) < (kp : Int) + 1 := by omega
          have hltd : decide ((i : Int) < (kp : Int) + 1) = true := decide_eq_true hltz
          have HKP : Aside0 (kp + 1 = k) := ⟨hkp⟩
          clear hkp
          go_wp2_with fail
          have q0 := HK.out
          have q1 := HD0.out
          have q2 := HII.out
          have q3 := HAM.out
          have q4 := HKP.out
          obtain ⟨iN104, hiN104⟩ : ∃ q, q = k := ⟨_, rfl⟩
          obtain ⟨jN104, hjN104⟩ : ∃ q, q = (k - 1) := ⟨_, rfl⟩
          have ea104 : ((kp : Int) + 1).toNat = iN104 := by omega
          have pa104 : (0 : Int) ≤ (kp : Int) + 1 := by omega
          have ba104 : (kp : Int) + 1 < (N : Int) := by omega
          have ra104 : IntKind.i64.wrap ((kp : Int) + 1) = (kp : Int) + 1 := by rw [IntKind.wrap_i64]; omega
          have ec104 : ((kp : Int)).toNat = jN104 := by omega
          have pc104 : (0 : Int) ≤ (kp : Int) := by omega
          have bc104 : (kp : Int) < (N : Int) := by omega
          have rc104 : IntKind.i64.wrap ((kp : Int)) = (kp : Int) := by rw [IntKind.wrap_i64]; omega
          obtain ⟨x104, hx104⟩ : ∃ x, x = dk[k]! := ⟨_, rfl⟩
          obtain ⟨y104, hy104⟩ : ∃ x, x = dk[(k - 1)]! := ⟨_, rfl⟩
          have S4 : Aside (SW enc w0 blk off (swp dk (k) ((k - 1))) ((wr.setCell ⟨blk, off + iN104, none⟩ (enc y104)).setCell ⟨blk, off + jN104, none⟩ (enc x104)).drew) := by rw [hiN104, hjN104, hx104, hy104]; exact S3.out.swapped R (k) ((k - 1)) (by omega) (by omega)
          have c104a := S3.out.c1 R (by omega) (k) (by omega)
          have c104b := S3.out.c1 R (by omega) ((k - 1)) (by omega)
          have f104a := S3.out.f1 R (by omega) (k) (by omega)
          have f104b := S3.out.f1 R (by omega) ((k - 1)) (by omega)
          obtain ⟨u104, c104c⟩ := S3.out.c2 R (by omega) (k) ((k - 1)) (by omega) (by omega) (enc y104)
          rw [← hjN104, ← hiN104] at c104c
          rw [← hx104, ← hiN104] at c104a
          rw [← hy104, ← hjN104] at c104b
          rw [← hiN104] at f104a
          rw [← hjN104] at f104b
          clear S3 hx104 hy104 hiN104 hjN104
          clear q0 q1 q2 q3 q4
          go_wp2_with fail
          go_big_region_o
          clear c104a c104b c104c f104a f104b
          generalize ((wr.setCell ⟨blk, off + iN104, none⟩ (enc y104)).setCell ⟨blk, off + jN104, none⟩ (enc x104)).drew = w4 at S4 ⊢
          clear ea104 ec104
          go_wp2
          go_roundg (kp - i)
          case measure => have := HK.out; have := HKP.out; omega
          case rel =>
            have hk := HK.out
            have hd := HS.out
            have hii := HII.out
            have ham := HAM.out
            have hkp := HKP.out
            have hst := HI.out.1
            rw [← hkp] at hst
            have hsw : swp dk k (k - 1) = swp dk (kp + 1) kp := by rw [← hkp]; rfl
            exact ⟨kp, swp dk k (k - 1), by first | rfl | go_num | (congr 1; omega), ⟨by omega, by omega, by rw [swp_size]; exact hk.2.2⟩, S4, ⟨by rw [hsw]; exact C.st_sh2_step hst (by omega) (by omega), permIn_trans _ _ _ _ _ HI.out.2 (swp_permIn dk a b k (k - 1) (by omega) (by omega) (by omega) (by omega) (by omega))⟩⟩
        · have hltz : ¬ (i : Int) < (k : Int) := by omega
          have HKE : Aside0 (k = i) := ⟨by have := HK.out; omega⟩
          have hend : SortedIn lt2 a b dk := by
            have := C.st_sh2_end HO.out HTT.out HS1.out HCC.out HSI.out (HKE.out ▸ HI.out.1)
            rw [HB1.out]
            exact this
          have HE : Hid (SortedIn lt2 a b dk) := hend
          clear hend
          go_wp2
          refine bodyPost_ret (results_none rfl _ _ _) rfl ?_
          exact ⟨rfl, dk, HK.out.2.2, S3.out, HI.out.2, HE.out⟩
open Go.Sort Go.RowKit Go.Lib in
set_option maxHeartbeats 8000000 in
set_option maxRecDepth 1000000 in
theorem st_sym_3 {α : Type} [Inhabited α] (enc : α → Value) (blk off cap N : Nat) (d0 : Array α) (w0 : World) (R : Row1 enc w0 blk off d0) (h0 : d0.size = N) (hsz : N < 4611686018427387904) (cf : α → α → Int) (lt2 : α → α → Bool) (Q : α → α → Prop) (hO : SWO lt2) (hT : C.StTest (ltOf cf) lt2 Q) (g : Nat) (cb : Array Value) (eg : ∀ args w, (callFunc g args).run Try.prog w = .ok (.enter g args) w) (hcmp : CmpLays1 Try.prog g cb enc cf blk off N w0) (n a m b : Nat) (d : Array α) (w : World) (h1 : ¬ m = a + 1) (h2 : ¬ b = m + 1) (ih : ∀ (a m b : Nat) (d : Array α) (w : World), b - a ≤ n → d.size = N → SW enc w0 blk off d w → a < m → m < b → b ≤ N → SortedIn lt2 a m d → SortedIn lt2 m b d → C.StAc Q a m b d → ∀ (za zm zb : Int), za = a → zm = m → zb = b →
    Calls Try.prog 30 #[.slice (some ⟨blk, off, none⟩) N cap, .int .i64 za, .int .i64 zm, .int .i64 zb, .func (.func g) #[] cb] w fun e w' => e = .returned (.tuple #[]) ∧ ∃ d', d'.size = N ∧ SW enc w0 blk off d' w' ∧ PermIn a b d d' ∧ SortedIn lt2 a b d') : b - a ≤ n + 1 → d.size = N → SW enc w0 blk off d w → a < m → m < b → b ≤ N → SortedIn lt2 a m d → SortedIn lt2 m b d → C.StAc Q a m b d → ∀ (za zm zb : Int), za = a → zm = m → zb = b →
    Calls Try.prog 30 #[.slice (some ⟨blk, off, none⟩) N cap, .int .i64 za, .int .i64 zm, .int .i64 zb, .func (.func g) #[] cb] w fun e w' => e = .returned (.tuple #[]) ∧ ∃ d', d'.size = N ∧ SW enc w0 blk off d' w' ∧ PermIn a b d d' ∧ SortedIn lt2 a b d' := by
  intro hn hs S ham hmb hb hs1 hs2 hcc za zm zb hza hzm hzb
  subst hza hzm hzb
  have S0 : Aside (SW enc w0 blk off d w) := S
  clear S
  have HS : Aside0 (d.size = N) := ⟨hs⟩
  have HD0 : Aside0 (d0.size = N) := ⟨h0⟩
  have HC : Aside (CmpLays1 Try.prog g cb enc cf blk off N w0) := hcmp
  have HAM : Aside0 (a < m ∧ m < b ∧ b ≤ N ∧ N < 4611686018427387904) := ⟨ham, hmb, hb, hsz⟩
  have HAN : Aside0 (b - a ≤ n + 1) := ⟨hn⟩
  have HO : Aside0 (SWO lt2) := ⟨hO⟩
  have HTT : Aside0 (C.StTest (ltOf cf) lt2 Q) := ⟨hT⟩
  have HS1 : Hid (SortedIn lt2 a m d) := hs1
  have HS2 : Hid (SortedIn lt2 m b d) := hs2
  have HCC : Hid (C.StAc Q a m b d) := hcc
  clear hs h0 hcmp hn hO hT hs1 hs2 hcc
  have mixed : Try.prog.follows .mixedOrders = true := by kernel_rfl
  have hcl0 := R.hO.cells
  simp only [Value.cells] at hcl0
  have hst := R.hO.store Try.prog
  have ra : IntKind.i64.wrap ((m : Int) - (a : Int)) = (m : Int) - (a : Int) := by rw [IntKind.wrap_i64]; omega
  have rb : IntKind.i64.wrap ((b : Int) - (m : Int)) = (b : Int) - (m : Int) := by rw [IntKind.wrap_i64]; omega
  have bN : (b : Int) ≤ (N : Int) := by omega
  have mN : (m : Int) < (N : Int) := by omega
  have aN : (a : Int) < (N : Int) := by omega
  have IH := Aside0.mk ih
  clear ih
  have hz : ¬ ((m : Int) - (a : Int) = 1) := by omega
  have hz2 : ¬ ((b : Int) - (m : Int) = 1) := by omega
  have hzb : ((m : Int) - (a : Int) == 1) = false := beq_eq_false_iff_ne.mpr hz
  have hz2b : ((b : Int) - (m : Int) == 1) = false := beq_eq_false_iff_ne.mpr hz2
  clear h1 h2
  obtain ⟨mid, hmid⟩ : ∃ q : Nat, q = (a + b) / 2 := ⟨_, rfl⟩
  have zmid : ((a : Int) + (b : Int)) / 2 = (mid : Int) := by omega
  have HMID : Aside0 (mid = (a + b) / 2) := ⟨hmid⟩
  obtain ⟨lo, hlo⟩ : ∃ q : Nat, q = C.stLo a m b := ⟨_, rfl⟩
  obtain ⟨hi, hhi⟩ : ∃ q : Nat, q = C.stHi a m b := ⟨_, rfl⟩
  have HLH : Aside0 (a ≤ lo ∧ lo ≤ hi ∧ hi ≤ m ∧ hi ≤ mid) := ⟨by have := C.st_lo_hi ham hmb; rw [← hlo, ← hhi, ← hmid] at this; exact this⟩
  have HEB : Aside0 (mid + m - lo ≤ b) := ⟨by rw [hlo, hmid]; unfold C.stLo; split <;> omega⟩
  have HPL : Aside0 (∀ c, lo ≤ c → c < hi → a ≤ c ∧ c < m ∧ m ≤ (a + b) / 2 + m - 1 - c ∧ (a + b) / 2 + m - 1 - c < b) := ⟨fun c x1 x2 => C.st_place ham hmb (hlo ▸ x1) (hhi ▸ x2)⟩
  have HMO := Aside0.mk (C.st_mono3 HO.out HTT.out ham hmb HS1.out HS2.out HCC.out)
  rw [← hlo, ← hhi] at HMO
  have HLO : Aside0 (lo = C.stLo a m b) := ⟨hlo⟩
  have HHI : Aside0 (hi = C.stHi a m b) := ⟨hhi⟩
  obtain ⟨pp, hpp⟩ : ∃ q : Nat, q = mid + m - 1 := ⟨_, rfl⟩
  have zpp : (mid : Int) + (m : Int) - 1 = (pp : Int) := by omega
  have HPP : Aside0 (pp = mid + m - 1) := ⟨hpp⟩
  have midN : (mid : Int) < (N : Int) := by omega
  clear hmid hlo hhi hpp ham hmb hb
  go_enter Try.func30, Try.ntmps30
  go_upto_if 140 with fail
  go_cut [20, 21] (fun s20 s21 wc => s20 = .int .i64 lo ∧ s21 = .int .i64 hi ∧ wc = w)
  case first =>
    as_aux_lemma =>
      by_cases hmm : mid < m
      · have hmz : (mid : Int) < (m : Int) := by omega
        have e1 : lo = mid + m - b := by rw [HLO.out]; unfold C.stLo; rw [if_pos (by have := HMID.out; omega), ← HMID.out]
        have e2 : hi = mid := by rw [HHI.out]; unfold C.stHi; rw [if_pos (by have := HMID.out; omega), ← HMID.out]
        have zlo : (mid : Int) + (m : Int) - (b : Int) = (lo : Int) := by have := HLH.out; have := HAM.out; have := HMID.out; omega
        have HE2 := Aside0.mk e2
        clear e1 e2 hmm
        go_wp2_with fail
        go_meet
        case rel => exact ⟨by first | rfl | go_num, by rw [HE2.out], rfl⟩
      · have hmz : ¬ (mid : Int) < (m : Int) := by omega
        have e1 : lo = a := by rw [HLO.out]; unfold C.stLo; rw [if_neg (by have := HMID.out; omega)]
        have e2 : hi = m := by rw [HHI.out]; unfold C.stHi; rw [if_neg (by have := HMID.out; omega)]
        have HE1 := Aside0.mk e1
        have HE2 := Aside0.mk e2
        clear e1 e2 hmm
        go_wp2_with fail
        go_meet
        case rel => exact ⟨by rw [HE1.out], by rw [HE2.out], rfl⟩
  case rest =>
    as_aux_lemma =>
      obtain ⟨rfl, rfl, rfl⟩ := hcut
      go_wp2_with fail
      go_loopg [20, 21] (hi - lo) (fun kx x1 x2 wr => ∃ (i j : Nat), x1 = .int .i64 i ∧ x2 = .int .i64 j ∧ Aside0 (j - i ≤ kx ∧ lo ≤ i ∧ i ≤ j ∧ j ≤ hi) ∧ Aside (SW enc w0 blk off d wr) ∧ Hid (C.StBs (C.stP (ltOf cf) a m b d) lo hi i j))
      case atStart => exact ⟨lo, hi, by first | rfl | (congr 1; omega), by first | rfl | (congr 1; omega), ⟨Nat.le_refl _, Nat.le_refl _, by have := HLH.out; omega, Nat.le_refl _⟩, S0, C.st_bs_start _ (by have := HLH.out; omega)⟩
      case round =>
        clear S0
        obtain ⟨i, j, rfl, rfl, HK, S1, HI⟩ := hrel
        by_cases hlt : i < j
        · have hltz : (i : Int) < (j : Int) := by omega
          have hbi : (i : Int) ≤ (N : Int) := by have := HAM.out; have := HK.out; have := HLH.out; omega
          have hbj : (j : Int) ≤ (N : Int) := by have := HAM.out; have := HK.out; have := HLH.out; omega
          obtain ⟨c, hc⟩ : ∃ c : Nat, c = (i + j) / 2 := ⟨_, rfl⟩
          have zc : ((i : Int) + (j : Int)) / 2 = (c : Int) := by omega
          have HC2 : Aside0 (i ≤ c ∧ c < j) := ⟨by omega, by omega⟩
          clear hc
          obtain ⟨pc, hpc⟩ : ∃ q : Nat, q = (a + b) / 2 + m - 1 - c := ⟨_, rfl⟩
          have zpc : (pp : Int) - (c : Int) = (pc : Int) := by have := HPP.out; have := HMID.out; have := HC2.out; have := HK.out; have := HPL.out c (by omega) (by omega); omega
          have HPC : Aside0 (pc = (a + b) / 2 + m - 1 - c) := ⟨hpc⟩
          clear hpc
          cases hv : ltOf cf d[(a + b) / 2 + m - 1 - c]! d[c]! with
          | true =>
            have HV : Hid (ltOf cf d[(a + b) / 2 + m - 1 - c]! d[c]! = true) := hv
            have q0 := HS.out
            have q1 := HD0.out
            have q2 := HAM.out
            have q3 := HC2.out
            have q4 := HK.out
            have q5 := HPP.out
            have q6 := HMID.out
            have q7 := HPL.out c (by omega) (by omega)
            have q8 := HPC.out
            obtain ⟨iN107, hiN107⟩ : ∃ q, q = (a + b) / 2 + m - 1 - c := ⟨_, rfl⟩
            obtain ⟨jN107, hjN107⟩ : ∃ q, q = c := ⟨_, rfl⟩
            have ea107 : ((pc : Int)).toNat = iN107 := by omega
            have pa107 : (0 : Int) ≤ (pc : Int) := by omega
            have ba107 : (pc : Int) < (N : Int) := by omega
            have ra107 : IntKind.i64.wrap ((pc : Int)) = (pc : Int) := by rw [IntKind.wrap_i64]; omega
            have ec107 : ((c : Int)).toNat = jN107 := by omega
            have pc107 : (0 : Int) ≤ (c : Int) := by omega
            have bc107 : (c : Int) < (N : Int) := by omega
            have rc107 : IntKind.i64.wrap ((c : Int)) = (c : Int) := by rw [IntKind.wrap_i64]; omega
            obtain ⟨x107, hx107⟩ : ∃ x, x = d[(a + b) / 2 + m - 1 - c]! := ⟨_, rfl⟩
            obtain ⟨y107, hy107⟩ : ∃ x, x = d[c]! := ⟨_, rfl⟩
            have l107a := S1.out.cl R (by omega) ((a + b) / 2 + m - 1 - c) (by omega)
            have l107b := S1.out.cl R (by omega) (c) (by omega)
            rw [← hx107, ← hiN107] at l107a
            rw [← hy107, ← hjN107] at l107b
            have hc107 := S1.out.cmp HC.out (by omega) x107 y107
            have hv107 : cf x107 y107 < 0 := by rw [hx107, hy107]; exact of_decide_eq_true hv
            have hd107 : decide (cf x107 y107 < 0) = true := decide_eq_true hv107
            clear hx107 hy107 hiN107 hjN107 q0 q1 q2 q3 q4 q5 q6 q7 q8
            go_wp2_with fail
            go_quiet_grown (first | (go_at_fn g; refine Calls.grown_of (hc107 _ _)))
            have S2 : Aside (SW enc w0 blk off d (grow (wr.drewN nq) osq)) := S1.out.grown nq osq
            clear l107a l107b hc107 S1
            generalize grow (wr.drewN nq) osq = w2 at S2 ⊢
            clear nq osq
            clear ea107 ec107
            go_wp2
            go_roundg (c - i)
            case measure => have := HC2.out; have := HK.out; omega
            case rel =>
              refine ⟨i, c, rfl, rfl, ⟨by have := HC2.out; have := HK.out; omega, by have := HC2.out; have := HK.out; omega, by have := HC2.out; have := HK.out; omega⟩, S2, (show Hid _ from ?_)⟩
              show C.StBs _ _ _ _ _
              refine C.st_bs_down HMO.out HI.out (by have := HK.out; have := HC2.out; omega) (by have := HC2.out; omega) ?_
              exact (by show (!ltOf cf d[(a + b) / 2 + m - 1 - c]! d[c]!) = _; rw [HV.out]; rfl)
          | false =>
            have HV : Hid (ltOf cf d[(a + b) / 2 + m - 1 - c]! d[c]! = false) := hv
            have q0 := HS.out
            have q1 := HD0.out
            have q2 := HAM.out
            have q3 := HC2.out
            have q4 := HK.out
            have q5 := HPP.out
            have q6 := HMID.out
            have q7 := HPL.out c (by omega) (by omega)
            have q8 := HPC.out
            obtain ⟨iN108, hiN108⟩ : ∃ q, q = (a + b) / 2 + m - 1 - c := ⟨_, rfl⟩
            obtain ⟨jN108, hjN108⟩ : ∃ q, q = c := ⟨_, rfl⟩
            have ea108 : ((pc : Int)).toNat = iN108 := by omega
            have pa108 : (0 : Int) ≤ (pc : Int) := by omega
            have ba108 : (pc : Int) < (N : Int) := by omega
            have ra108 : IntKind.i64.wrap ((pc : Int)) = (pc : Int) := by rw [IntKind.wrap_i64]; omega
            have ec108 : ((c : Int)).toNat = jN108 := by omega
            have pc108 : (0 : Int) ≤ (c : Int) := by omega
            have bc108 : (c : Int) < (N : Int) := by omega
            have rc108 : IntKind.i64.wrap ((c : Int)) = (c : Int) := by rw [IntKind.wrap_i64]; omega
            obtain ⟨x108, hx108⟩ : ∃ x, x = d[(a + b) / 2 + m - 1 - c]! := ⟨_, rfl⟩
            obtain ⟨y108, hy108⟩ : ∃ x, x = d[c]! := ⟨_, rfl⟩
            have l108a := S1.out.cl R (by omega) ((a + b) / 2 + m - 1 - c) (by omega)
            have l108b := S1.out.cl R (by omega) (c) (by omega)
            rw [← hx108, ← hiN108] at l108a
            rw [← hy108, ← hjN108] at l108b
            have hc108 := S1.out.cmp HC.out (by omega) x108 y108
            have hv108 : ¬ cf x108 y108 < 0 := by rw [hx108, hy108]; exact of_decide_eq_false hv
            have hd108 : decide (cf x108 y108 < 0) = false := decide_eq_false hv108
            clear hx108 hy108 hiN108 hjN108 q0 q1 q2 q3 q4 q5 q6 q7 q8
            go_wp2_with fail
            go_quiet_grown (first | (go_at_fn g; refine Calls.grown_of (hc108 _ _)))
            have S2 : Aside (SW enc w0 blk off d (grow (wr.drewN nq) osq)) := S1.out.grown nq osq
            clear l108a l108b hc108 S1
            generalize grow (wr.drewN nq) osq = w2 at S2 ⊢
            clear nq osq
            clear ea108 ec108
            go_wp2
            go_roundg (j - (c + 1))
            case measure => have := HC2.out; have := HK.out; omega
            case rel =>
              refine ⟨c + 1, j, by first | rfl | go_num | (congr 1; omega), rfl, ⟨by have := HC2.out; omega, by have := HC2.out; have := HK.out; omega, by have := HK.out; omega⟩, S2, (show Hid _ from ?_)⟩
              show C.StBs _ _ _ _ _
              refine C.st_bs_up HMO.out HI.out (by have := HK.out; have := HC2.out; omega) (by have := HC2.out; omega) ?_
              exact (by show (!ltOf cf d[(a + b) / 2 + m - 1 - c]! d[c]!) = _; rw [HV.out]; rfl)
        · have hltz : ¬ (i : Int) < (j : Int) := by omega
          have hij : i = j := by have := HK.out; omega
          subst hij
          have HSI : Hid (C.StBs (C.stP (ltOf cf) a m b d) lo hi i i) := HI
          have HII : Aside0 (lo ≤ i ∧ i ≤ hi) := ⟨by have := HK.out; omega, by have := HK.out; omega⟩
          have HSM : Aside0 (i ≤ m ∧ a ≤ i ∧ i ≤ mid ∧ m ≤ mid + m - i ∧ mid + m - i ≤ b) := ⟨by have h1 := HLH.out; have h2 := HII.out; have h3 := HMID.out; have h4 := HEB.out; omega⟩
          clear HI hltz HK
          obtain ⟨en, hen⟩ : ∃ q : Nat, q = mid + m - i := ⟨_, rfl⟩
          have zen : (mid : Int) + (m : Int) - (i : Int) = (en : Int) := by have := HSM.out; omega
          have HEN : Aside0 (en = mid + m - i) := ⟨hen⟩
          clear hen
          have hen0 : (en : Int) ≤ (N : Int) := by have := HSM.out; have := HEN.out; have := HAM.out; omega
          obtain ⟨b1, hb1⟩ : ∃ q : Bool, q = (decide (i < m) && decide (m < en)) := ⟨_, rfl⟩
          have Hb1 : Aside0 (b1 = (decide (i < m) && decide (m < en))) := ⟨hb1⟩
          clear hb1
          go_upto_region 39 with fail
          go_cut [185] (fun s wx => s = .bool b1 ∧ wx = wr)
          case first =>
            as_aux_lemma =>
              by_cases k1 : i < m
              · by_cases k2 : m < en
                · have k1z : (i : Int) < (m : Int) := by omega
                  have k2z : (m : Int) < (en : Int) := by omega
                  have hv : b1 = true := by rw [Hb1.out, decide_eq_true k1, decide_eq_true k2]; rfl
                  have HV := Aside0.mk hv
                  clear hv k1 k2
                  go_wp2_with fail
                  go_meet
                  case rel => exact ⟨by rw [HV.out], rfl⟩
                · have k1z : (i : Int) < (m : Int) := by omega
                  have k2z : ¬ (m : Int) < (en : Int) := by omega
                  have hv : b1 = false := by rw [Hb1.out, decide_eq_false k2, Bool.and_false]
                  have HV := Aside0.mk hv
                  clear hv k1 k2
                  go_wp2_with fail
                  go_meet
                  case rel => exact ⟨by rw [HV.out], rfl⟩
              · have k1z : ¬ (i : Int) < (m : Int) := by omega
                have hv : b1 = false := by rw [Hb1.out, decide_eq_false k1, Bool.false_and]
                have HV := Aside0.mk hv
                clear hv k1
                go_wp2_with fail
                go_meet
                case rel => exact ⟨by rw [HV.out], rfl⟩
          case rest =>
            as_aux_lemma =>
              obtain ⟨rfl, hw⟩ := hcut
              subst hw
              go_upto_if 185 with fail
              go_cut [] (fun wc => ∃ d1 : Array α, Aside0 (d1.size = N) ∧ Aside (SW enc w0 blk off d1 wc) ∧ Hid (C.StRot i m en d d1 ∧ PermIn i en d d1))
              case first =>
                as_aux_lemma =>
                  cases b1 with
                  | true =>
                    have HR := Aside0.mk (show i < m by have := Hb1.out; simp at this; omega)
                    have HR2 := Aside0.mk (show m < en by have := Hb1.out; simp at this; omega)
                    go_wp2_with (go_at_call 32; refine (st_rot_calls enc blk off cap N d0 w0 R HD0.out hsz d _ HS.out S1.out i m en HR.out HR2.out (by have := HSM.out; have := HEN.out; have := HAM.out; omega) _ _ _ rfl rfl rfl _).mono ?_; rintro e w2 ⟨rfl, d1, hd1, hS1, hR1, hP1⟩; have H1 : Aside0 (d1.size = N) := ⟨hd1⟩; have S2 : Aside (SW enc w0 blk off d1 w2) := hS1; have HX : Hid (C.StRot i m en d d1 ∧ PermIn i en d d1) := ⟨hR1, hP1⟩; clear hd1 hS1 hR1 hP1 S1)
                    go_meet
                    case rel => exact ⟨d1, H1, S2, HX⟩
                  | false =>
                    have HX : Hid (C.StRot i m en d d ∧ PermIn i en d d) := ⟨C.st_rot_none (by have := HSM.out; have := HEN.out; have := Hb1.out; simp at this; omega) (by have := HSM.out; omega) (by have := HSM.out; have := HEN.out; omega), permIn_refl _ _ _⟩
                    go_wp2_with fail
                    go_meet
                    case rel => exact ⟨d, HS, S1, HX⟩
              case rest =>
                as_aux_lemma =>
                  clear S1
                  obtain ⟨d1, HS1', S1, HX⟩ := hcut
                  have HMI : Hid (C.StMid lt2 Q a mid i en b d1) := by
                    have h := C.st_mid HO.out HTT.out HAM.out.1 HAM.out.2.1 HS1.out HS2.out HCC.out (by have := HSI.out; rw [HLO.out, HHI.out] at this; exact this) (show C.StRot i m ((a + b) / 2 + m - i) d d1 by rw [← HMID.out, ← HEN.out]; exact HX.out.1)
                    rw [← HMID.out, ← HEN.out] at h
                    exact h
                  have HP1 : Hid (PermIn a b d d1) := permIn_mono _ _ _ _ _ _ (by have := HSM.out; omega) (by have := HSM.out; have := HEN.out; omega) (by have := HS.out; have := HAM.out; omega) HX.out.2
                  clear HX HSI
                  obtain ⟨b2, hb2⟩ : ∃ q : Bool, q = (decide (a < i) && decide (i < mid)) := ⟨_, rfl⟩
                  have Hb2 : Aside0 (b2 = (decide (a < i) && decide (i < mid))) := ⟨hb2⟩
                  clear hb2
                  go_upto_region 41 with fail
                  go_cut [199] (fun s wx => s = .bool b2 ∧ wx = wc)
                  case first =>
                    as_aux_lemma =>
                      by_cases k1 : a < i
                      · by_cases k2 : i < mid
                        · have k1z : (a : Int) < (i : Int) := by omega
                          have k2z : (i : Int) < (mid : Int) := by omega
                          have hv : b2 = true := by rw [Hb2.out, decide_eq_true k1, decide_eq_true k2]; rfl
                          have HV := Aside0.mk hv
                          clear hv k1 k2
                          go_wp2_with fail
                          go_meet
                          case rel => exact ⟨by rw [HV.out], rfl⟩
                        · have k1z : (a : Int) < (i : Int) := by omega
                          have k2z : ¬ (i : Int) < (mid : Int) := by omega
                          have hv : b2 = false := by rw [Hb2.out, decide_eq_false k2, Bool.and_false]
                          have HV := Aside0.mk hv
                          clear hv k1 k2
                          go_wp2_with fail
                          go_meet
                          case rel => exact ⟨by rw [HV.out], rfl⟩
                      · have k1z : ¬ (a : Int) < (i : Int) := by omega
                        have hv : b2 = false := by rw [Hb2.out, decide_eq_false k1, Bool.false_and]
                        have HV := Aside0.mk hv
                        clear hv k1
                        go_wp2_with fail
                        go_meet
                        case rel => exact ⟨by rw [HV.out], rfl⟩
                  case rest =>
                    as_aux_lemma =>
                      obtain ⟨rfl, hw⟩ := hcut
                      subst hw
                      go_upto_if 199 with fail
                      go_cut [] (fun wc => ∃ d2 : Array α, Aside0 (d2.size = N) ∧ Aside (SW enc w0 blk off d2 wc) ∧ Hid (PermIn a mid d1 d2 ∧ SortedIn lt2 a mid d2))
                      case first =>
                        as_aux_lemma =>
                          cases b2 with
                          | true =>
                            have HR := Aside0.mk (show a < i by have := Hb2.out; simp at this; omega)
                            have HR2 := Aside0.mk (show i < mid by have := Hb2.out; simp at this; omega)
                            go_wp2_with (go_at_call 30; refine (IH.out a i mid d1 _ (by have := HMID.out; have := HAM.out; have := HAN.out; omega) HS1'.out S1.out HR.out HR2.out (by have := HMID.out; have := HAM.out; omega) HMI.out.l1 HMI.out.l2 HMI.out.lq _ _ _ rfl rfl rfl).mono ?_; rintro e w2 ⟨rfl, d2, hd1, hS1, hR1, hP1⟩; have H1 : Aside0 (d2.size = N) := ⟨hd1⟩; have S2 : Aside (SW enc w0 blk off d2 w2) := hS1; have HX : Hid (PermIn a mid d1 d2 ∧ SortedIn lt2 a mid d2) := ⟨hR1, hP1⟩; clear hd1 hS1 hR1 hP1 S1)
                            go_meet
                            case rel => exact ⟨d2, H1, S2, HX⟩
                          | false =>
                            have HX : Hid (PermIn a mid d1 d1 ∧ SortedIn lt2 a mid d1) := ⟨permIn_refl _ _ _, C.st_half HMI.out.l1 HMI.out.l2 (by have := Hb2.out; simp at this; omega)⟩
                            go_wp2_with fail
                            go_meet
                            case rel => exact ⟨d1, HS1', S1, HX⟩
                      case rest =>
                        as_aux_lemma =>
                          clear S1
                          obtain ⟨d2, H2s, S2, HX2⟩ := hcut
                          have hmb2 : mid ≤ N := by have := HMID.out; have := HAM.out; omega
                          have HM2 : Hid (SortedIn lt2 mid en d2 ∧ SortedIn lt2 en b d2 ∧ C.StAc Q mid en b d2 ∧ C.StAc (fun x y => lt2 y x = false) a mid b d2) := by
                            have hp := HX2.out.1
                            have hq := HMI.out
                            have e1 := HSM.out
                            have e2 := HEN.out
                            refine ⟨C.st_sorted_other hq.r1 hp (Or.inr (Nat.le_refl _)), C.st_sorted_other hq.r2 hp (Or.inr (by omega)), ?_, C.st_ac_left hq.cr (by have := HS1'.out; omega) hp⟩
                            intro x y h1 h2 h3 h4
                            rw [hp.2.1 x (Or.inr h1), hp.2.1 y (Or.inr (by omega))]
                            exact hq.rq x y h1 h2 h3 h4
                          have HP2 : Hid (PermIn a b d d2) := permIn_trans _ _ _ _ _ HP1.out (permIn_mono _ _ _ _ _ _ (Nat.le_refl _) (by have := HMID.out; have := HAM.out; omega) (by have := HS1'.out; have := HAM.out; omega) HX2.out.1)
                          have HLS : Hid (SortedIn lt2 a mid d2) := HX2.out.2
                          clear HX2 HMI HP1 hmb2
                          have FIN : Aside0 (∀ d3 : Array α, PermIn mid b d2 d3 → SortedIn lt2 mid b d3 → PermIn a b d d3 ∧ SortedIn lt2 a b d3) := ⟨fun d3 hp hs => ⟨permIn_trans _ _ _ _ _ HP2.out (permIn_mono _ _ _ _ _ _ (by have := HMID.out; have := HAM.out; omega) (Nat.le_refl _) (by have := H2s.out; have := HAM.out; omega) hp), C.st_join (C.st_sorted_other HLS.out hp (Or.inl (Nat.le_refl _))) hs (C.st_ac_right HM2.out.2.2.2 (by have := H2s.out; have := HAM.out; omega) hp)⟩⟩
                          obtain ⟨b3, hb3⟩ : ∃ q : Bool, q = (decide (mid < en) && decide (en < b)) := ⟨_, rfl⟩
                          have Hb3 : Aside0 (b3 = (decide (mid < en) && decide (en < b))) := ⟨hb3⟩
                          clear hb3
                          go_upto_region 43 with fail
                          go_cut [213] (fun s wx => s = .bool b3 ∧ wx = wc)
                          case first =>
                            as_aux_lemma =>
                              by_cases k1 : mid < en
                              · by_cases k2 : en < b
                                · have k1z : (mid : Int) < (en : Int) := by omega
                                  have k2z : (en : Int) < (b : Int) := by omega
                                  have hv : b3 = true := by rw [Hb3.out, decide_eq_true k1, decide_eq_true k2]; rfl
                                  have HV := Aside0.mk hv
                                  clear hv k1 k2
                                  go_wp2_with fail
                                  go_meet
                                  case rel => exact ⟨by rw [HV.out], rfl⟩
                                · have k1z : (mid : Int) < (en : Int) := by omega
                                  have k2z : ¬ (en : Int) < (b : Int) := by omega
                                  have hv : b3 = false := by rw [Hb3.out, decide_eq_false k2, Bool.and_false]
                                  have HV := Aside0.mk hv
                                  clear hv k1 k2
                                  go_wp2_with fail
                                  go_meet
                                  case rel => exact ⟨by rw [HV.out], rfl⟩
                              · have k1z : ¬ (mid : Int) < (en : Int) := by omega
                                have hv : b3 = false := by rw [Hb3.out, decide_eq_false k1, Bool.false_and]
                                have HV := Aside0.mk hv
                                clear hv k1
                                go_wp2_with fail
                                go_meet
                                case rel => exact ⟨by rw [HV.out], rfl⟩
                          case rest =>
                            as_aux_lemma =>
                              obtain ⟨rfl, hw⟩ := hcut
                              subst hw
                              cases b3 with
                              | true =>
                                have HR := Aside0.mk (show mid < en by have := Hb3.out; simp at this; omega)
                                have HR2 := Aside0.mk (show en < b by have := Hb3.out; simp at this; omega)
                                go_wp2_with (go_at_call 30; refine (IH.out mid en b d2 _ (by have := HMID.out; have := HAM.out; have := HAN.out; omega) H2s.out S2.out HR.out HR2.out (by have := HAM.out; omega) HM2.out.1 HM2.out.2.1 HM2.out.2.2.1 _ _ _ rfl rfl rfl).mono ?_; rintro e w3 ⟨rfl, d3, hd1, hS1, hR1, hP1⟩; have H3 : Aside0 (d3.size = N) := ⟨hd1⟩; have S3 : Aside (SW enc w0 blk off d3 w3) := hS1; have HX : Hid (PermIn a b d d3 ∧ SortedIn lt2 a b d3) := FIN.out d3 hR1 hP1; clear hd1 hS1 hR1 hP1 S2)
                                go_end0
                                exact ⟨rfl, d3, H3.out, S3.out, HX.out⟩
                              | false =>
                                have HX : Hid (PermIn a b d d2 ∧ SortedIn lt2 a b d2) := FIN.out d2 (permIn_refl _ _ _) (C.st_half HM2.out.1 HM2.out.2.1 (by have := Hb3.out; simp at this; omega))
                                go_wp2
                                go_end0
                                exact ⟨rfl, d2, H2s.out, S2.out, HX.out⟩
theorem st_lt_succ (n : Nat) : n < n + 1 := Nat.lt_succ_self n
open Go.Sort Go.RowKit Go.Lib in
theorem st_sym_calls {α : Type} [Inhabited α] (enc : α → Value) (blk off cap N : Nat) (d0 : Array α) (w0 : World) (R : Row1 enc w0 blk off d0) (h0 : d0.size = N) (hsz : N < 4611686018427387904) (cf : α → α → Int) (lt2 : α → α → Bool) (Q : α → α → Prop) (hO : SWO lt2) (hT : C.StTest (ltOf cf) lt2 Q) (g : Nat) (cb : Array Value) (eg : ∀ args w, (callFunc g args).run Try.prog w = .ok (.enter g args) w) (hcmp : CmpLays1 Try.prog g cb enc cf blk off N w0) : ∀ (n a m b : Nat) (d : Array α) (w : World), b - a ≤ n → d.size = N → SW enc w0 blk off d w → a < m → m < b → b ≤ N → SortedIn lt2 a m d → SortedIn lt2 m b d → C.StAc Q a m b d → ∀ (za zm zb : Int), za = a → zm = m → zb = b →
    Calls Try.prog 30 #[.slice (some ⟨blk, off, none⟩) N cap, .int .i64 za, .int .i64 zm, .int .i64 zb, .func (.func g) #[] cb] w fun e w' => e = .returned (.tuple #[]) ∧ ∃ d', d'.size = N ∧ SW enc w0 blk off d' w' ∧ PermIn a b d d' ∧ SortedIn lt2 a b d' := by
  intro n
  induction n with
  | zero => intro a m b d w h1 _ _ h2 h3; omega
  | succ n ih =>
    intro a m b d w
    by_cases h1 : m = a + 1
    · exact st_sym_1 enc blk off cap N d0 w0 R h0 hsz cf lt2 Q hO hT g cb eg hcmp n a m b d w h1
    · by_cases h2 : b = m + 1
      · exact st_sym_2 enc blk off cap N d0 w0 R h0 hsz cf lt2 Q hO hT g cb eg hcmp n a m b d w h1 h2
      · exact st_sym_3 enc blk off cap N d0 w0 R h0 hsz cf lt2 Q hO hT g cb eg hcmp n a m b d w h1 h2 ih

end Go.Proofs.Ytbhccjoodlldbaa.P

-- Written by a program of this session (wip/tools/hp.py) out of the translation.
import Derived.Test.YtbhccjoodlldbaaPx0
import Derived.Test.YtbhccjoodlldbaaPx9
namespace Go.Proofs.Ytbhccjoodlldbaa.P
open Go.RowKit Go.Proofs.YtbhccjoodlldbaaW.PrintWords Go.Proofs.YtbhccjoodlldbaaW.PrintLast Go.Proofs.YtbhccjoodlldbaaW.PrintMore
attribute [local go_sem] max2_int min2_int max_two min_two max_three min_three max_four min_four   -- for this text's walks alone
set_option linter.unusedVariables false
set_option linter.unusedSimpArgs false

/-! ### slices_SortStableFunc_int_int: function 16 -/
open Go.Sort Go.RowKit Go.Lib in
theorem st_ins_calls {α : Type} [Inhabited α] (enc : α → Value) (blk off cap N : Nat) (d0 : Array α) (w0 : World) (R : Row1 enc w0 blk off d0) (h0 : d0.size = N) (hsz : N < 4611686018427387904) (d : Array α) (w : World) (hs : d.size = N) (S : SW enc w0 blk off d w) (cf : α → α → Int) (g : Nat) (cb : Array Value) (eg : ∀ args w, (callFunc g args).run Try.prog w = .ok (.enter g args) w) (hcmp : CmpLays1 Try.prog g cb enc cf blk off N w0) (a b : Nat) (hab : a ≤ b) (hb : b ≤ N) (za zb : Int) (hza : za = a) (hzb : zb = b) :
    Calls Try.prog 29 #[.slice (some ⟨blk, off, none⟩) N cap, .int .i64 za, .int .i64 zb, .func (.func g) #[] cb] w fun e w' => e = .returned (.tuple #[]) ∧ SW enc w0 blk off (Sort.insertionSort (ltOf cf) d a b) w' := by
  subst hza hzb
  have := C.sh_insertionSortCmpFunc_s enc cf g cb blk off cap a b d0 d w0 w eg (by rw [h0]; exact hcmp) R (by rw [h0, hs]) S hab (by rw [hs]; exact hb) (by rw [hs]; exact hsz)
  rw [hs] at this
  exact this
open Go.Sort Go.RowKit Go.Lib in
set_option maxHeartbeats 8000000 in
set_option maxRecDepth 1000000 in
theorem st_stable_calls {α : Type} [Inhabited α] (enc : α → Value) (blk off cap N : Nat) (d0 : Array α) (w0 : World) (R : Row1 enc w0 blk off d0) (h0 : d0.size = N) (hsz : N ≤ 1000000) (cf : α → α → Int) (lt2 : α → α → Bool) (Q : α → α → Prop) (hO : SWO lt2) (hT : C.StTest (ltOf cf) lt2 Q) (g : Nat) (cb : Array Value) (eg : ∀ args w, (callFunc g args).run Try.prog w = .ok (.enter g args) w) (hcmp : CmpLays1 Try.prog g cb enc cf blk off N w0) (o : Array α) (hq : ∀ k l, k < l → l < N → Q o[k]! o[l]!) (w : World) (ho : o.size = N) (S : SW enc w0 blk off o w) (zn : Int) (hzn : zn = N) :
    Calls Try.prog 24 #[.slice (some ⟨blk, off, none⟩) N cap, .int .i64 zn, .func (.func g) #[] cb] w fun e w' => e = .returned (.tuple #[]) ∧ ∃ d', d'.size = N ∧ SW enc w0 blk off d' w' ∧ PermIn 0 N o d' ∧ SortedIn lt2 0 N d' := by
  subst hzn
  have S0 : Aside (SW enc w0 blk off o w) := S
  have HOS : Aside0 (o.size = N) := ⟨ho⟩
  have HD0 : Aside0 (d0.size = N) := ⟨h0⟩
  have HC : Aside (CmpLays1 Try.prog g cb enc cf blk off N w0) := hcmp
  have HSZ : Aside0 (N ≤ 1000000) := ⟨hsz⟩
  have HO : Aside0 (SWO lt2) := ⟨hO⟩
  have HTT : Aside0 (C.StTest (ltOf cf) lt2 Q) := ⟨hT⟩
  have HQ := Aside0.mk hq
  have hNb : (N : Int) ≤ 1000000 := by omega
  clear S ho h0 hcmp hsz hO hT hq
  go_enter Try.func24, Try.ntmps24
  go_wp2
  go_loopg [7, 8] (N + 1) (fun kx s7 s8 wr => ∃ (a b : Nat) (dk : Array α), s7 = .int .i64 a ∧ s8 = .int .i64 b ∧ Aside0 (a ≤ N ∧ b = a + 20 ∧ N + 1 ≤ a + kx ∧ dk.size = N) ∧ Aside (SW enc w0 blk off dk wr) ∧ Hid (∃ q, q * 20 = a ∧ (∀ p, p < q → C.StBlk lt2 o 20 N p dk) ∧ (∀ i, q * 20 ≤ i → dk[i]! = o[i]!) ∧ PermIn 0 N o dk))
  case atStart => exact ⟨0, 20, o, rfl, rfl, ⟨Nat.zero_le _, rfl, by omega, HOS.out⟩, S0, ⟨0, by omega, fun p hp => by omega, fun _ _ => rfl, permIn_refl _ _ _⟩⟩
  case round =>
    clear S0
    obtain ⟨a, b, dk, rfl, rfl, HU, S1, HI⟩ := hrel
    have hbn : (b : Int) ≤ 1000020 := by have := HU.out; have := HSZ.out; omega
    have HDK : Aside0 (dk.size = N) := ⟨HU.out.2.2.2⟩
    by_cases hlt : b ≤ N
    · have hltz : (b : Int) ≤ (N : Int) := by omega
      have HL := Aside0.mk hlt
      clear hlt
      go_wp2_with (go_at_call 29; refine (st_ins_calls enc blk off cap N d0 w0 R HD0.out (by have := HSZ.out; omega) dk _ HDK.out S1.out cf g cb eg HC.out a b (by have := HU.out; omega) HL.out _ _ rfl rfl).mono ?_; rintro e w2 ⟨rfl, hS2⟩; have S2 : Aside (SW enc w0 blk off (Sort.insertionSort (ltOf cf) dk a b) w2) := hS2; clear hS2 S1)
      go_roundg (N + 1 - b)
      case measure => have := HU.out; have := HL.out; omega
      case rel =>
        have hu := HU.out
        have hl := HL.out
        obtain ⟨q, e1, e2, e3, e4⟩ := HI.out
        obtain ⟨f1, f2, f3⟩ := C.st_ph1 (b := b) HO.out HTT.out HQ.out HDK.out (by omega) (by omega) e2 e3
        rw [e1] at f1 f2 f3
        exact ⟨b, b + 20, Sort.insertionSort (ltOf cf) dk a b, rfl, by first | rfl | go_num | (congr 1; omega), ⟨hl, rfl, by omega, by rw [f3.1]; exact HDK.out⟩, S2, ⟨q + 1, by omega, f1, fun i hi => f2 i (by omega), permIn_trans _ _ _ _ _ e4 f3⟩⟩
    · have hltz : ¬ (b : Int) ≤ (N : Int) := by omega
      have HL := Aside0.mk hlt
      clear hlt
      go_wp2_with (go_at_call 29; refine (st_ins_calls enc blk off cap N d0 w0 R HD0.out (by have := HSZ.out; omega) dk _ HDK.out S1.out cf g cb eg HC.out a N (by have := HU.out; omega) (Nat.le_refl _) _ _ rfl rfl).mono ?_; rintro e w2 ⟨rfl, hS2⟩; have S2 : Aside (SW enc w0 blk off (Sort.insertionSort (ltOf cf) dk a N) w2) := hS2; clear hS2 S1)
      have HB : Hid ((Sort.insertionSort (ltOf cf) dk a N).size = N ∧ (∀ p, C.StBlk lt2 o 20 N p (Sort.insertionSort (ltOf cf) dk a N)) ∧ PermIn 0 N o (Sort.insertionSort (ltOf cf) dk a N)) := by
        have hu := HU.out
        have hl := HL.out
        obtain ⟨q, e1, e2, e3, e4⟩ := HI.out
        obtain ⟨f1, f2, f3⟩ := C.st_ph1 (b := N) HO.out HTT.out HQ.out HDK.out (by omega) (by omega) e2 e3
        rw [e1] at f1 f2 f3
        exact ⟨by rw [f3.1]; exact HDK.out, C.st_ph1_end f1 (by omega), permIn_trans _ _ _ _ _ e4 f3⟩
      clear HI HDK
      generalize Sort.insertionSort (ltOf cf) dk a N = dn at S2 HB
      clear HU HL hltz hbn
      go_loopg [6] (N + 1) (fun kx s6 wr => ∃ (s : Nat) (dk : Array α), s6 = .int .i64 s ∧ Aside0 (20 ≤ s ∧ s ≤ 2000020 ∧ N ≤ s + kx) ∧ Aside (SW enc w0 blk off dk wr) ∧ Hid (dk.size = N ∧ (∀ p, C.StBlk lt2 o s N p dk) ∧ PermIn 0 N o dk))
      case atStart => exact ⟨20, dn, rfl, ⟨by omega, by omega, by omega⟩, S2, HB⟩
      case round =>
        clear S2 HB
        obtain ⟨s, dm, rfl, HU, S1, HI⟩ := hrel
        by_cases hlt : s < N
        · have hltz : (s : Int) < (N : Int) := by omega
          have r1 : IntKind.i64.wrap (2 * (s : Int)) = 2 * (s : Int) := by have := HU.out; rw [IntKind.wrap_i64]; omega
          have r2 : IntKind.i64.wrap ((s : Int) * 2) = (s : Int) * 2 := by have := HU.out; rw [IntKind.wrap_i64]; omega
          have HL := Aside0.mk hlt
          clear hlt
          go_wp2_with fail
          go_loopg [7, 8] (N + 1) (fun kx s7 s8 wr => ∃ (a b : Nat) (dk : Array α), s7 = .int .i64 a ∧ s8 = .int .i64 b ∧ Aside0 (a ≤ N ∧ b = a + 2 * s ∧ N + 1 ≤ a + kx) ∧ Aside (SW enc w0 blk off dk wr) ∧ Hid (dk.size = N ∧ ∃ q, 2 * q * s = a ∧ (∀ p, p < q → C.StBlk lt2 o (2 * s) N p dk) ∧ (∀ p, 2 * q ≤ p → C.StBlk lt2 o s N p dk) ∧ PermIn 0 N o dk))
          case atStart => exact ⟨0, 2 * s, dm, rfl, by first | rfl | go_num | (congr 1; omega), ⟨Nat.zero_le _, by omega, by omega⟩, S1, ⟨HI.out.1, 0, by simp, fun p hp => by omega, fun p _ => HI.out.2.1 p, HI.out.2.2⟩⟩
          case round =>
            clear S1 HI
            obtain ⟨a, b, dk, rfl, rfl, HV, S1, HI⟩ := hrel
            have HDK : Aside0 (dk.size = N) := ⟨HI.out.1⟩
            have hbn : (b : Int) ≤ 6000000 := by have := HV.out; have := HU.out; have := HSZ.out; omega
            have han : (a : Int) ≤ 1000000 := by have := HV.out; have := HSZ.out; omega
            have hsn : (s : Int) ≤ 2000020 := by have := HU.out; omega
            by_cases hlt : b ≤ N
            · have hltz2 : (b : Int) ≤ (N : Int) := by omega
              have HB := Aside0.mk hlt
              clear hlt
              have HPRE : Hid (SortedIn lt2 a (a + s) dk ∧ SortedIn lt2 (a + s) b dk ∧ C.StAc Q a (a + s) b dk) := by
                have hv := HV.out
                have hb := HB.out
                obtain ⟨_, q, e1, e2, e3, e4⟩ := HI.out
                obtain ⟨g1, g2, g3⟩ := C.st_ph2_pre HQ.out e3
                rw [e1, show min (a + s) N = a + s by omega] at g1
                rw [e1, show min (a + 2 * s) N = b by omega] at g2 g3
                exact ⟨g1, g2, g3⟩
              go_wp2_with (go_at_call 30; refine (st_sym_calls enc blk off cap N d0 w0 R HD0.out (by have := HSZ.out; omega) cf lt2 Q HO.out HTT.out g cb eg HC.out (b - a) a (a + s) b dk _ (by have v1 := HV.out; have v2 := HU.out; have v3 := HB.out; omega) HDK.out S1.out (by have v1 := HV.out; have v2 := HU.out; have v3 := HB.out; omega) (by have v1 := HV.out; have v2 := HU.out; have v3 := HB.out; omega) (by have v1 := HV.out; have v2 := HU.out; have v3 := HB.out; omega) HPRE.out.1 HPRE.out.2.1 HPRE.out.2.2 _ _ _ (by have v1 := HV.out; have v2 := HU.out; have v3 := HB.out; omega) (by have v1 := HV.out; have v2 := HU.out; have v3 := HB.out; omega) (by have v1 := HV.out; have v2 := HU.out; have v3 := HB.out; omega)).mono ?_; rintro e w2 ⟨rfl, d2, hd2, hS2, hP2, hs2⟩; have H2 : Aside0 (d2.size = N) := ⟨hd2⟩; have S2 : Aside (SW enc w0 blk off d2 w2) := hS2; have HX : Hid (PermIn a b dk d2 ∧ SortedIn lt2 a b d2) := ⟨hP2, hs2⟩; clear hd2 hS2 hP2 hs2 S1)
              go_roundg (N + 1 - b)
              case measure => have := HV.out; have := HB.out; have := HU.out; omega
              case rel =>
                have hv := HV.out
                have hb := HB.out
                obtain ⟨hsz, q, e1, e2, e3, e4⟩ := HI.out
                have hm : min (2 * q * s + 2 * s) N = b := by omega
                obtain ⟨f1, f2⟩ := C.st_ph2_step (d2 := d2) (by omega) e2 e3 (by rw [hm, e1]; exact HX.out.2) (by rw [hm, e1]; exact HX.out.1)
                have e5 : 2 * (q + 1) * s = 2 * q * s + 2 * s := by rw [Nat.mul_add, Nat.add_mul]
                exact ⟨b, b + 2 * s, d2, rfl, by first | rfl | go_num | (congr 1; omega), ⟨hb, rfl, by omega⟩, S2, ⟨H2.out, q + 1, by omega, f1, f2, permIn_trans _ _ _ _ _ e4 (permIn_mono _ _ _ _ _ _ (Nat.zero_le _) hb (by omega) HX.out.1)⟩⟩
            · have hltz2 : ¬ (b : Int) ≤ (N : Int) := by omega
              have HB := Aside0.mk hlt
              clear hlt
              by_cases hmn : a + s < N
              · have hmz : (a : Int) + (s : Int) < (N : Int) := by omega
                have HM := Aside0.mk hmn
                clear hmn
                have HPRE : Hid (SortedIn lt2 a (a + s) dk ∧ SortedIn lt2 (a + s) N dk ∧ C.StAc Q a (a + s) N dk) := by
                  have hv := HV.out
                  have hb := HB.out
                  have hm := HM.out
                  obtain ⟨_, q, e1, e2, e3, e4⟩ := HI.out
                  obtain ⟨g1, g2, g3⟩ := C.st_ph2_pre HQ.out e3
                  rw [e1, show min (a + s) N = a + s by omega] at g1
                  rw [e1, show min (a + 2 * s) N = N by omega] at g2 g3
                  exact ⟨g1, g2, g3⟩
                go_wp2_with (go_at_call 30; refine (st_sym_calls enc blk off cap N d0 w0 R HD0.out (by have := HSZ.out; omega) cf lt2 Q HO.out HTT.out g cb eg HC.out (N - a) a (a + s) N dk _ (by have v1 := HV.out; have v2 := HU.out; have v3 := HB.out; have v4 := HM.out; omega) HDK.out S1.out (by have v1 := HV.out; have v2 := HU.out; have v3 := HB.out; have v4 := HM.out; omega) (by have v1 := HV.out; have v2 := HU.out; have v3 := HB.out; have v4 := HM.out; omega) (by have v1 := HV.out; have v2 := HU.out; have v3 := HB.out; have v4 := HM.out; omega) HPRE.out.1 HPRE.out.2.1 HPRE.out.2.2 _ _ _ (by have v1 := HV.out; have v2 := HU.out; have v3 := HB.out; have v4 := HM.out; omega) (by have v1 := HV.out; have v2 := HU.out; have v3 := HB.out; have v4 := HM.out; omega) (by have v1 := HV.out; have v2 := HU.out; have v3 := HB.out; have v4 := HM.out; omega)).mono ?_; rintro e w2 ⟨rfl, d2, hd2, hS2, hP2, hs2⟩; have H2 : Aside0 (d2.size = N) := ⟨hd2⟩; have S2 : Aside (SW enc w0 blk off d2 w2) := hS2; have HX : Hid (PermIn a N dk d2 ∧ SortedIn lt2 a N d2) := ⟨hP2, hs2⟩; clear hd2 hS2 hP2 hs2 S1)
                go_roundg (N - 2 * s)
                case measure => have := HU.out; have := HL.out; omega
                case rel =>
                  have hv := HV.out
                  have hb := HB.out
                  have hu := HU.out
                  have hl := HL.out
                  have hN := HSZ.out
                  obtain ⟨hsz, q, e1, e2, e3, e4⟩ := HI.out
                  have hm : min (2 * q * s + 2 * s) N = N := by omega
                  obtain ⟨f1, f2⟩ := C.st_ph2_step (d2 := d2) (by omega) e2 e3 (by rw [hm, e1]; exact HX.out.2) (by rw [hm, e1]; exact HX.out.1)
                  exact ⟨2 * s, d2, by first | rfl | go_num | (congr 1; omega), ⟨by omega, by omega, by omega⟩, S2, ⟨H2.out, C.st_ph2_end f1 (by omega), permIn_trans _ _ _ _ _ e4 (permIn_mono _ _ _ _ _ _ (Nat.zero_le _) (Nat.le_refl _) (by omega) HX.out.1)⟩⟩
              · have hmz : ¬ (a : Int) + (s : Int) < (N : Int) := by omega
                have HM := Aside0.mk hmn
                clear hmn
                go_wp2
                go_roundg (N - 2 * s)
                case measure => have := HU.out; have := HL.out; omega
                case rel =>
                  have hv := HV.out
                  have hb := HB.out
                  have hu := HU.out
                  have hl := HL.out
                  have hN := HSZ.out
                  have hm := HM.out
                  obtain ⟨hsz, q, e1, e2, e3, e4⟩ := HI.out
                  exact ⟨2 * s, dk, by first | rfl | go_num | (congr 1; omega), ⟨by omega, by omega, by omega⟩, S1, ⟨hsz, C.st_ph2_end (C.st_ph2_alone e2 e3 (by omega)) (by omega), e4⟩⟩
        · have hltz : ¬ (s : Int) < (N : Int) := by omega
          have HL := Aside0.mk hlt
          clear hlt
          go_wp2
          go_end0
          exact ⟨rfl, dm, HI.out.1, S1.out, HI.out.2.2, C.st_blk_all (HI.out.2.1 0) (by have := HL.out; omega)⟩
open Go.Sort Go.RowKit Go.Lib in
set_option maxHeartbeats 8000000 in
set_option maxRecDepth 1000000 in
theorem st_top_calls {α : Type} [Inhabited α] (enc : α → Value) (blk off cap N : Nat) (d0 : Array α) (w0 : World) (R : Row1 enc w0 blk off d0) (h0 : d0.size = N) (hsz : N ≤ 1000000) (cf : α → α → Int) (lt2 : α → α → Bool) (Q : α → α → Prop) (hO : SWO lt2) (hT : C.StTest (ltOf cf) lt2 Q) (g : Nat) (cb : Array Value) (eg : ∀ args w, (callFunc g args).run Try.prog w = .ok (.enter g args) w) (hcmp : CmpLays1 Try.prog g cb enc cf blk off N w0) (hq : ∀ k l, k < l → l < N → Q d0[k]! d0[l]!) :
    Calls Try.prog 16 #[.slice (some ⟨blk, off, none⟩) N cap, .func (.func g) #[] cb] w0 fun e w' => e = .returned (.tuple #[]) ∧ ∃ d', d'.size = N ∧ SW enc w0 blk off d' w' ∧ PermIn 0 N d0 d' ∧ SortedIn lt2 0 N d' := by
  have hc := fun zn h => st_stable_calls enc blk off cap N d0 w0 R h0 hsz cf lt2 Q hO hT g cb eg hcmp d0 hq w0 h0 (SW.start R.hH) zn h
  have HC := Aside0.mk hc
  have hNb : (N : Int) ≤ 1000000 := by omega
  clear hc hq hcmp hT hO hsz h0 R
  go_enter Try.func16, Try.ntmps16
  go_wp2_with (go_at_call 24; refine (HC.out _ rfl).mono ?_; rintro e w2 ⟨rfl, d2, hd2, hS2, hP2, hs2⟩; have HX := Aside0.mk (And.intro hd2 (And.intro hS2 (And.intro hP2 hs2))); clear hd2 hS2 hP2 hs2)
  go_end0
  exact ⟨rfl, d2, HX.out⟩

end Go.Proofs.Ytbhccjoodlldbaa.P

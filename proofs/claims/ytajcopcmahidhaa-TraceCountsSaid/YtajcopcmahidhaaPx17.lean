-- Written by a program of this session (wip/tools/hp.py) out of the translation.
import Derived.Test.YtajcopcmahidhaaPx0
import Derived.Test.YtajcopcmahidhaaPx16
namespace Go.Proofs.Ytajcopcmahidhaa.P
open Go.RowKit Go.Proofs.YtajcopcmahidhaaW.PrintWords Go.Proofs.YtajcopcmahidhaaW.PrintLast Go.Proofs.YtajcopcmahidhaaW.PrintMore
attribute [local go_sem] max2_int min2_int max_two min_two max_three min_three max_four min_four   -- for this text's walks alone
set_option linter.unusedVariables false
set_option linter.unusedSimpArgs false

/-! ### pascalineref29_Until: function 23 -/
theorem tr_rd (l : List S27) (i : Nat) (h : i < l.length) : rd_T27 l (i : Int) = l[i] := by unfold rd_T27; rw [Int.toNat_natCast]; simp [List.getD_eq_getElem?_getD, h]
theorem tr_until_at (ex : List Int) : ∀ (l : List S27) (i : Nat) (h : i < l.length), (∀ j (hj : j < i), tr_hit ex (l[j]'(by omega)) = false) → tr_hit ex l[i] = true → (tr_until ex l).length = i
  | [], i, h, _, _ => by simp at h
  | x :: l, 0, h, _, hi => by
    unfold tr_until; simp only [List.getElem_cons_zero] at hi; simp [List.takeWhile_cons, hi]
  | x :: l, i + 1, h, ha, hi => by
    have h0 := ha 0 (by omega)
    simp only [List.getElem_cons_zero] at h0
    have ih := tr_until_at ex l i (by simpa using h) (fun j hj => by have := ha (j + 1) (by omega); simpa using this) (by simpa using hi)
    unfold tr_until at ih ⊢
    simp [List.takeWhile_cons, h0, ih]
theorem tr_until_all (ex : List Int) : ∀ (l : List S27), (∀ j (hj : j < l.length), tr_hit ex (l[j]'hj) = false) → (tr_until ex l).length = l.length
  | [], _ => rfl
  | x :: l, ha => by
    have h0 := ha 0 (by simp)
    simp only [List.getElem_cons_zero] at h0
    have ih := tr_until_all ex l (fun j hj => by have := ha (j + 1) (by simpa using hj); simpa using this)
    unfold tr_until at ih ⊢
    simp [List.takeWhile_cons, h0, ih]
theorem tr_mem (ex : List Int) (y : Int) (h : ∀ j : Nat, j < ex.length → rd ex (j : Int) ≠ y) : y ∉ ex := by
  intro hm
  obtain ⟨j, hj, e⟩ := List.mem_iff_getElem.mp hm
  refine h j hj ?_
  unfold rd; rw [Int.toNat_natCast]; simp [List.getD_eq_getElem?_getD, hj, e]
theorem tr_mem2 (ex : List Int) (j : Nat) (h : j < ex.length) : rd ex (j : Int) ∈ ex := by
  unfold rd; rw [Int.toNat_natCast]; simp [List.getD_eq_getElem?_getD, h]
set_option maxHeartbeats 2000000 in
set_option maxRecDepth 100000 in
theorem pascalineref29_Until.calls (A : Option Addr) (c : Nat) (l : List S27) (Ae : Option Addr) (ce : Nat) (ex : List Int) (w : World) (hl : l.length ≤ 100000) (he : ex.length ≤ 100000) (hC : Kd.C k27 w A l.length l) (hc : l.length ≤ c) (hE : Kd.C (Kd.int .i32) w Ae ex.length ex) :
    Calls Try.prog 23 #[.slice A l.length c, .slice Ae ex.length ce] w fun e w' => e = .returned (.slice A (tr_until ex l).length c) ∧ Below w.heap.size w w' := by
  have HC := Aside0.mk hC
  have HE := Aside0.mk hE
  clear hC hE
  go_enter Try.func23, Try.ntmps23
  go_wp2
  go_loopg [5] (l.length + 1) (fun kx v5 wr => ∃ (i q : Nat), v5 = .int .i64 i ∧ wr = w.drewN q ∧ Aside0 (i + kx = l.length + 1 ∧ i ≤ l.length) ∧ Aside0 (∀ j : Nat, j < i → tr_hit ex (rd_T27 l (j : Int)) = false))
  case atStart => exact ⟨0, 0, rfl, rfl, ⟨⟨by omega, by omega⟩⟩, ⟨fun j hj => by omega⟩⟩
  case round =>
    obtain ⟨i, q, rfl, rfl, I, HN⟩ := hrel
    by_cases hi : i < l.length
    · obtain ⟨ad, e, hx0, hx1⟩ := at_T27 HC.out (i : Int) (by omega) (by omega)
      cases e
      rw [Int.toNat_natCast] at hx0 hx1
      have hZ := tr_rd l i hi
      generalize hz : rd_T27 l (i : Int) = z at hx0 hx1 hZ
      obtain ⟨x, y⟩ := z
      have HZ := Aside0.mk (And.intro hz hZ)
      clear hz hZ
      dsimp only at hx0 hx1
      have hi1 : (i : Int) < (l.length : Int) := by omega
      have hi0 : (0 : Int) ≤ (i : Int) := by omega
      have hi2 : (i : Int) ≤ 100000 := by omega
      have hi3 : i ≤ c := by omega
      have hi4 : (i : Int) ≤ (c : Int) := by omega
      go_wp2
      go_loopg [6] (ex.length + 1) (fun kx v6 wr => ∃ (j q : Nat), v6 = .int .i64 j ∧ wr = w.drewN q ∧ Aside0 (j + kx = ex.length + 1 ∧ j ≤ ex.length) ∧ Aside0 (x = 2 → ∀ j' : Nat, j' < j → rd ex (j' : Int) ≠ y))
      case atStart => exact ⟨0, q, rfl, rfl, ⟨⟨by omega, by omega⟩⟩, ⟨fun _ j hj => by omega⟩⟩
      case round =>
        obtain ⟨j, q2, rfl, rfl, J, HM⟩ := hrel
        by_cases hj : j < ex.length
        · obtain ⟨ade, e2, hy⟩ := Kd.at_int HE.out (j : Int) (by omega) (by omega)
          cases e2
          rw [Int.toNat_natCast] at hy
          have hj1 : (j : Int) < (ex.length : Int) := by omega
          have hj0 : (0 : Int) ≤ (j : Int) := by omega
          have hj2 : (j : Int) ≤ 100000 := by omega
          have hmem := tr_mem2 ex j hj
          by_cases hx : x = 2
          · have hb0 : (x == 2) = true := beq_iff_eq.mpr hx
            by_cases hq : y = rd ex (j : Int)
            · have HD : Aside0 ((tr_until ex l).length = i) := ⟨tr_until_at ex l i hi (fun j hj => by have := HN.out j hj; rwa [tr_rd l j (by omega)] at this) (by rw [← HZ.out.2]; unfold tr_hit; simp [hx]; rw [hq]; exact hmem)⟩
              have hb1 : (y == rd ex (j : Int)) = true := beq_iff_eq.mpr hq
              clear hmem
              generalize rd ex (j : Int) = u at hy hb1 hq
              clear hq hx
              go_wp2
              repeat (go_quiet (fail); try go_wp2)
              go_ret
              exact ⟨by rw [HD.out]; rfl, by first | exact pw_below_drewN (Below.refl _ _) _ | exact pw_below_drewN (pw_below_drewN (Below.refl _ _) _) _⟩
            · have hb1 : (y == rd ex (j : Int)) = false := beq_eq_false_iff_ne.mpr hq
              have HM2 := Aside0.mk (show x = 2 → ∀ j' : Nat, j' < j + 1 → rd ex (j' : Int) ≠ y from fun h2 j' hj' => by
                by_cases e3 : j' = j
                · subst e3; exact fun e4 => hq e4.symm
                · exact HM.out h2 j' (by omega))
              clear hmem
              generalize rd ex (j : Int) = u at hy hb1 hq
              clear hq hx
              go_wp2
              repeat (go_quiet (fail); try go_wp2)
              go_roundg (ex.length - j)
              case measure => have := J.out; omega
              case rel => exact ⟨j + 1, q2 + nq, by first | rfl | (simp; done), rfl, ⟨by have := J.out; omega⟩, HM2⟩
          · have hb0 : (x == 2) = false := beq_eq_false_iff_ne.mpr hx
            have HM2 := Aside0.mk (show x = 2 → ∀ j' : Nat, j' < j + 1 → rd ex (j' : Int) ≠ y from fun h2 => absurd h2 hx)
            clear hmem hx
            go_wp2
            repeat (go_quiet (fail); try go_wp2)
            go_roundg (ex.length - j)
            case measure => have := J.out; omega
            case rel => exact ⟨j + 1, q2 + nq, by first | rfl | (simp; done), rfl, ⟨by have := J.out; omega⟩, HM2⟩
        · have hj1 : decide ((j : Int) < (ex.length : Int)) = false := decide_eq_false (by omega)
          have HN2 := Aside0.mk (show ∀ j : Nat, j < i + 1 → tr_hit ex (rd_T27 l (j : Int)) = false from fun j' hj' => by
            by_cases e3 : j' = i
            · subst e3
              rw [HZ.out.1]
              unfold tr_hit
              by_cases hx : x = 2
              · have hn := tr_mem ex y (fun j' hj' => HM.out hx j' (by have := J.out; omega))
                simp [hn]
              · simp [hx]
            · exact HN.out j' (by omega))
          go_wp2
          go_roundg (l.length - i)
          case measure => have := I.out; omega
          case rel => exact ⟨i + 1, q2, by first | rfl | (simp; done), rfl, ⟨by have := I.out; omega⟩, HN2⟩
    · have hi1 : decide ((i : Int) < (l.length : Int)) = false := decide_eq_false (by omega)
      have HD : Aside0 ((tr_until ex l).length = l.length) := ⟨tr_until_all ex l (fun j hj => by have := HN.out j (by have := I.out; omega); rwa [tr_rd l j hj] at this)⟩
      go_wp2
      go_ret
      exact ⟨by rw [HD.out]; rfl, pw_below_drewN (Below.refl _ _) _⟩

end Go.Proofs.Ytajcopcmahidhaa.P

-- Written by a program of this session (wip/tools/hp.py) out of the translation.
import Derived.Test.YtkgjpelddncfdaaPx0
namespace Go.Proofs.Ytkgjpelddncfdaa.P
open Go.RowKit Go.Proofs.YtkgjpelddncfdaaW.PrintWords Go.Proofs.YtkgjpelddncfdaaW.PrintLast Go.Proofs.YtkgjpelddncfdaaW.PrintMore
attribute [local go_sem] max2_int min2_int max_two min_two max_three min_three max_four min_four   -- for this text's walks alone
set_option linter.unusedVariables false
set_option linter.unusedSimpArgs false

/-! ### scope_find: function 25 -/
/-- The place of the first one that is so, from i on; or -1. -/
def os_ix {α : Type} (p : α → Bool) : List α → Int → Int
  | [], _ => -1
  | x :: l, i => if p x = true then i else os_ix p l (i + 1)
theorem os_ix_le {α : Type} (p : α → Bool) : ∀ (l : List α) (i : Int), 0 ≤ i → -1 ≤ os_ix p l i ∧ os_ix p l i < i + (l.length : Int) + 1
  | [], i, h => by unfold os_ix; simp; omega
  | x :: l, i, h => by
    unfold os_ix
    have ih := os_ix_le p l (i + 1) (by omega)
    simp only [List.length_cons]
    split <;> omega
theorem os_ix_lt {α : Type} (p : α → Bool) : ∀ (l : List α) (i : Int), 0 ≤ i → 0 ≤ os_ix p l i → i ≤ os_ix p l i ∧ os_ix p l i < i + (l.length : Int)
  | [], i, _, h => by unfold os_ix at h; omega
  | x :: l, i, h, h0 => by
    unfold os_ix at h0 ⊢
    simp only [List.length_cons]
    by_cases hp : p x = true
    · rw [if_pos hp]; omega
    · rw [if_neg hp] at h0 ⊢
      have ih := os_ix_lt p l (i + 1) (by omega) h0
      omega
def sc_is (a : ByteArray) (x : S25) : Bool := x.f0.toList == a.toList
def sc_ix (l : List S25) (a : ByteArray) : Int := os_ix (sc_is a) l 0
set_option maxHeartbeats 1000000 in
set_option maxRecDepth 100000 in
theorem sc_find_closure (bx : Nat) (a : ByteArray) (x : S25) (v7 : Value) (A7 : Option Addr) (n7 c7 : Nat) (h7 : v7 = .slice A7 n7 c7) (W : World) (hx : W.cell? ⟨bx, 0, none⟩ = some (.string a)) (hb : bx < W.heap.size) :
    Calls Try.prog 38 #[.agg #[.string x.f0, .int .i64 x.f1, .int .i64 x.f2, .int .i64 x.f3, .int .i32 x.f4, .int .i64 x.f5, .bool x.f6, v7], .pointer (some ⟨bx, 0, none⟩)] W fun e w' => e = .returned (.bool (sc_is a x)) ∧ Below W.heap.size W w' := by
  have hne := World.new_ne W ⟨bx, 0, none⟩ hx
  subst h7
  obtain ⟨x0, x1, x2, x3, x4, x5, x6, x7⟩ := x
  unfold sc_is
  dsimp only
  go_enter Try.func38, Try.ntmps38
  go_wp2
  go_ret
  exact ⟨rfl, below_alloc (Below.refl _ _) _⟩
set_option maxHeartbeats 2000000 in
set_option maxRecDepth 100000 in
theorem sx_ixf_find (cb : Array Value) (A : Option Addr) (c : Nat) (l : List (S25)) (p : S25 → Bool) (w : World) (hl : l.length ≤ 9223372036854775807) (hC : Kd.C k25 w A l.length l)
    (hf : ∀ W, Below w.heap.size w W → ∀ (i : Nat) (A7 : Option Addr) (c7 : Nat), i < l.length → (rd_T25 l (i : Int)).f7.length ≤ c7 → Kd.C k69 W A7 (rd_T25 l (i : Int)).f7.length (rd_T25 l (i : Int)).f7 → Calls Try.prog 38 (#[.agg #[.string (rd_T25 l (i : Int)).f0, .int .i64 (rd_T25 l (i : Int)).f1, .int .i64 (rd_T25 l (i : Int)).f2, .int .i64 (rd_T25 l (i : Int)).f3, .int .i32 (rd_T25 l (i : Int)).f4, .int .i64 (rd_T25 l (i : Int)).f5, .bool (rd_T25 l (i : Int)).f6, .slice A7 (rd_T25 l (i : Int)).f7.length c7]] ++ cb) W fun e w' => e = .returned (.bool (p (rd_T25 l (i : Int)))) ∧ Below W.heap.size W w') :
    Calls Try.prog 37 #[.slice A l.length c, .func (.func 38) #[] cb] w fun e w' => e = .returned (.int .i64 (os_ix p l 0)) ∧ Below w.heap.size w w' := by
  have HF := Aside0.mk hf
  have HC := Aside0.mk hC
  clear hf hC
  obtain ⟨R, hR⟩ : ∃ R, R = os_ix p l 0 := ⟨_, rfl⟩
  rw [← hR]
  have HR := Aside0.mk hR
  clear hR
  go_enter Try.func37, Try.ntmps37
  go_wp2
  go_loopg [8] (l.length + 1) (fun kx v8 wr => ∃ i : Nat, v8 = .int .i64 i ∧ Aside0 (i + kx = l.length + 1 ∧ i ≤ l.length) ∧ Aside0 (Below w.heap.size w wr) ∧ Aside0 (os_ix p (l.drop i) (i : Int) = R))
  case atStart => exact ⟨0, rfl, ⟨⟨by omega, by omega⟩⟩, ⟨Below.refl _ _⟩, ⟨HR.out.symm⟩⟩
  case round =>
    obtain ⟨i, rfl, I, HB, HX⟩ := hrel
    by_cases hi : i < l.length
    · obtain ⟨ad, A7, c7, e, hx0, hx1, hx2, hx3, hx4, hx5, hx6, hx7, hle7, hC7⟩ := at_T25 HC.out (i : Int) (by omega) (by omega)
      cases e
      rw [Int.toNat_natCast] at hx0 hx1 hx2 hx3 hx4 hx5 hx6 hx7
      have er : rd_T25 l (i : Int) = l[i] := by unfold rd_T25; rw [Int.toNat_natCast]; simp [List.getD_eq_getElem?_getD, hi]
      have hX := HX.out
      rw [List.drop_eq_getElem_cons hi, ← er] at hX
      unfold os_ix at hX
      replace hx0 := (HB.out.cell (World.block_lt_of_cell? w _ hx0)).trans hx0
      replace hx1 := (HB.out.cell (World.block_lt_of_cell? w _ hx1)).trans hx1
      replace hx2 := (HB.out.cell (World.block_lt_of_cell? w _ hx2)).trans hx2
      replace hx3 := (HB.out.cell (World.block_lt_of_cell? w _ hx3)).trans hx3
      replace hx4 := (HB.out.cell (World.block_lt_of_cell? w _ hx4)).trans hx4
      replace hx5 := (HB.out.cell (World.block_lt_of_cell? w _ hx5)).trans hx5
      replace hx6 := (HB.out.cell (World.block_lt_of_cell? w _ hx6)).trans hx6
      replace hx7 := (HB.out.cell (World.block_lt_of_cell? w _ hx7)).trans hx7
      have hc := HF.out wr HB.out i A7 c7 hi hle7 (Kd.C_below hC7 HB.out)
      clear hle7 hC7
      generalize hz : rd_T25 l (i : Int) = z at hx0 hx1 hx2 hx3 hx4 hx5 hx6 hx7 hX hc
      obtain ⟨z0, z1, z2, z3, z4, z5, z6, z7⟩ := z
      clear er hz
      dsimp only at hx0 hx1 hx2 hx3 hx4 hx5 hx6 hx7 hc
      generalize z7.length = n7 at hx7 hc
      have hi1 : (i : Int) < (l.length : Int) := by omega
      have hi0 : (0 : Int) ≤ (i : Int) := by omega
      have hi2 : (i : Int) ≤ 9223372036854775806 := by omega
      cases hp : p ⟨z0, z1, z2, z3, z4, z5, z6, z7⟩
      · rw [hp] at hX hc
        rw [if_neg (by simp)] at hX
        have HX2 := Aside0.mk hX
        have HCL := Aside0.mk hc
        clear hX hp hc
        go_wp2_with (go_at_call 38; ((with_reducible refine HCL.out.mono ?_)); rintro e w3 ⟨rfl, hb⟩; have HB2 := Aside0.mk (below_step HB.out hb); clear hb)
        go_roundg (l.length - i)
        case measure => have := I.out; omega
        case rel => exact ⟨i + 1, by first | rfl | (simp; done), ⟨by have := I.out; omega⟩, HB2, ⟨by rw [show ((i + 1 : Nat) : Int) = (i : Int) + 1 by omega]; exact HX2.out⟩⟩
      · rw [hp] at hX hc
        rw [if_pos rfl] at hX
        have HX2 := Aside0.mk hX
        have HCL := Aside0.mk hc
        clear hX hp hc
        go_wp2_with (go_at_call 38; ((with_reducible refine HCL.out.mono ?_)); rintro e w3 ⟨rfl, hb⟩; have HB2 := Aside0.mk (below_step HB.out hb); clear hb)
        go_ret
        exact ⟨by rw [← HX2.out]; rfl, HB2.out⟩
    · have hX := HX.out
      rw [List.drop_eq_nil_of_le (by omega)] at hX
      have HX2 := Aside0.mk (show R = -1 from hX.symm)
      have hi1 : decide ((i : Int) < (l.length : Int)) = false := decide_eq_false (by omega)
      clear hX
      go_wp2
      go_ret
      exact ⟨by rw [HX2.out]; rfl, HB.out⟩
def scope_find.f (l0 : List S25) (a1 : ByteArray) : Option Int := if l0.length ≤ 9223372036854775807 then some (sc_ix l0 a1) else none
set_option maxHeartbeats 1000000 in
set_option maxRecDepth 100000 in
theorem scope_find.calls (A0 : Option Addr) (c0 : Nat) (l0 : List S25) (a1 : ByteArray) (r : Int) (w : World) (hr0 : Kd.C k25 w A0 l0.length l0) (hc0 : l0.length ≤ c0) (h : scope_find.f l0 a1 = some r) :
    Calls Try.prog 25 #[.slice A0 l0.length c0, .string a1] w fun e w' => e = .returned (.int .i64 r) ∧ Below w.heap.size w w' := by
  unfold scope_find.f at h
  by_cases hl : l0.length ≤ 9223372036854775807
  · rw [if_pos hl] at h
    injection h with h
    obtain ⟨W0, hW0⟩ : ∃ W0, W0 = w.alloc (.cells #[.string a1] 9) := ⟨_, rfl⟩
    have hb0 : Below w.heap.size w W0 := by rw [hW0]; exact below_alloc (Below.refl _ _) _
    have hcell : W0.heap[w.heap.size]? = some (.cells #[.string a1] 9 (0, 0)) := by rw [hW0]; exact blk_new w _
    have hix := sx_ixf_find #[.pointer (some ⟨w.heap.size, 0, none⟩)] A0 c0 l0 (sc_is a1) W0 hl (Kd.C_below hr0 hb0) (fun W hW i A7 c7 hi _ _ => by
      have hb := (hW.block w.heap.size (blk_lt hcell)).trans hcell
      exact sc_find_closure w.heap.size a1 _ _ A7 _ c7 rfl W (cell_of_one hb) (blk_lt hb))
    unfold sc_ix at h
    rw [h] at hix
    have HIX := Aside0.mk hix
    have HB0 := Aside0.mk hb0
    have HW0 := Aside0.mk hW0
    clear hix hb0 hW0 hcell hr0 h
    generalize l0.length = n at *
    go_enter Try.func25, Try.ntmps25
    go_wp2_with (go_at_call 37; rw [← HW0.out]; ((with_reducible refine HIX.out.mono ?_)); rintro e w3 ⟨rfl, hb⟩; have HB3 := Aside0.mk (below_step HB0.out hb); clear hb)
    go_ret
    exact ⟨rfl, HB3.out⟩
  · rw [if_neg hl] at h; exact absurd h (by simp)

end Go.Proofs.Ytkgjpelddncfdaa.P

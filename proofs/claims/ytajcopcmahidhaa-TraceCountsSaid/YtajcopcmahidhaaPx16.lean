-- Written by a program of this session (wip/tools/hp.py) out of the translation.
import Derived.Test.YtajcopcmahidhaaPx0
import Derived.Test.YtajcopcmahidhaaPx14
import Derived.Test.YtajcopcmahidhaaPx15
namespace Go.Proofs.Ytajcopcmahidhaa.P
open Go.RowKit Go.Proofs.YtajcopcmahidhaaW.PrintWords Go.Proofs.YtajcopcmahidhaaW.PrintLast Go.Proofs.YtajcopcmahidhaaW.PrintMore
attribute [local go_sem] max2_int min2_int max_two min_two max_three min_three max_four min_four   -- for this text's walks alone
set_option linter.unusedVariables false
set_option linter.unusedSimpArgs false

/-! ### trace_Until: function 22 -/
theorem tr_wrap {i : Int} (h0 : 0 ≤ i) (h : i ≤ 1000000) : wrap64 (i + 1) = i + 1 := by unfold wrap64; omega
theorem tr_index_loop (ex : List Int) (a : Int) (hl : ex.length ≤ 100000) (d : Nat) : ∀ (k : Nat) (i : Nat), i ≤ ex.length → ex.length - i = d → d < k → (∃ r : Int, slices_Index_int32_int32.l0 k ex a (ex.length : Int) (i : Int) = some r ∧ (0 ≤ r ↔ a ∈ ex.drop i)) := by
  induction d with
  | zero =>
    intro k i hi hd hk
    obtain ⟨k, rfl⟩ : ∃ m, k = m + 1 := ⟨k - 1, by omega⟩
    refine ⟨-1, by simp only [slices_Index_int32_int32.l0]; rw [if_neg (by omega)], ?_⟩
    rw [List.drop_eq_nil_of_le (by omega)]
    simp
  | succ d ih =>
    intro k i hi hd hk
    obtain ⟨k, rfl⟩ : ∃ m, k = m + 1 := ⟨k - 1, by omega⟩
    have hlt : i < ex.length := by omega
    have e : ex.drop i = ex[i] :: ex.drop (i + 1) := List.drop_eq_getElem_cons hlt
    have er : rd ex (i : Int) = ex[i] := by unfold rd; rw [Int.toNat_natCast]; simp [List.getD_eq_getElem?_getD, hlt]
    simp only [slices_Index_int32_int32.l0]
    rw [if_pos (by omega), if_pos (by omega), if_pos (by omega), er]
    by_cases h : a = ex[i]
    · exact ⟨(i : Int), by rw [if_pos h], fun _ => by rw [e, List.mem_cons]; exact .inl h, fun _ => by omega⟩
    · rw [if_neg h, tr_wrap (by omega) (by omega)]
      obtain ⟨r, h1, h2⟩ := ih k (i + 1) (by omega) (by omega) (by omega)
      refine ⟨r, by rw [show ((i : Int) + 1) = ((i + 1 : Nat) : Int) by omega]; exact h1, ?_⟩
      rw [h2, e, List.mem_cons]
      exact ⟨fun hx => .inr hx, fun hx => hx.resolve_left h⟩
theorem tr_contains (k : Nat) (ex : List Int) (a : Int) (hl : ex.length ≤ 100000) (hk : ex.length < k) : slices_Contains_int32_int32.f k ex a = some (decide (a ∈ ex)) := by
  obtain ⟨r, h1, h2⟩ := tr_index_loop ex a hl ex.length k 0 (by omega) (by omega) hk
  unfold slices_Contains_int32_int32.f slices_Index_int32_int32.f
  rw [show ((0 : Nat) : Int) = 0 from rfl] at h1
  rw [h1]
  simp only [Option.bind_some, List.drop_zero] at h2 ⊢
  congr 1
  exact decide_eq_decide.mpr h2
/-- Does an event raise one of these? -/
def tr_hit (ex : List Int) (e : S27) : Bool := decide (e.f0 = 2) && decide (e.f1 ∈ ex)
set_option maxHeartbeats 1000000 in
set_option maxRecDepth 100000 in
theorem tr_closure (bx : Nat) (A : Option Addr) (c : Nat) (ex : List Int) (x y : Int) (W : World) (hl : ex.length ≤ 100000) (hc : ex.length ≤ c) (hx : W.cell? ⟨bx, 0, none⟩ = some (.slice A ex.length c)) (hC : Kd.C (Kd.int .i32) W A ex.length ex) (hb : bx < W.heap.size) :
    Calls Try.prog 33 #[.agg #[.int .i64 x, .int .i32 y], .pointer (some ⟨bx, 0, none⟩)] W fun e w' => e = .returned (.bool (tr_hit ex ⟨x, y⟩)) ∧ Below W.heap.size W w' := by
  unfold tr_hit
  dsimp only
  have HC := Aside0.mk hC
  have HL := Aside0.mk hl
  have HCC := Aside0.mk hc
  clear hC hl hc
  have hne := World.new_ne W ⟨bx, 0, none⟩ hx
  by_cases h : x = 2
  · have hb0 : (x == 2) = true := beq_iff_eq.mpr h
    rw [decide_eq_true h, Bool.true_and]
    generalize hd : decide (y ∈ ex) = d
    have HD := Aside0.mk hd
    clear hd h
    go_enter Try.func33, Try.ntmps33
    go_wp2_with (go_at_call 34; ((with_reducible refine (slices_Contains_int32_int32.calls 200000 A c ex y d _ (Kd.C_alloc HC.out _) HCC.out ((tr_contains 200000 ex y HL.out (by have := HL.out; omega)).trans (congrArg some HD.out))).mono ?_)); rintro e w' ⟨rfl, hd⟩; have HB := Aside0.mk (below_step (below_alloc (Below.refl _ _) _) hd.below); clear hd)
    go_ret
    exact ⟨rfl, HB.out⟩
  · have hb0 : (x == 2) = false := beq_eq_false_iff_ne.mpr h
    rw [decide_eq_false h, Bool.false_and]
    clear h
    go_enter Try.func33, Try.ntmps33
    go_wp2
    go_ret
    exact ⟨rfl, below_alloc (Below.refl _ _) _⟩
/-- The place of the first one that is so, or -1. -/
def tr_ix (p : S27 → Bool) : List S27 → Int → Int
  | [], _ => -1
  | x :: l, i => if p x = true then i else tr_ix p l (i + 1)
theorem tr_ix_spec (p : S27 → Bool) : ∀ (l : List S27) (i : Int), (tr_ix p l i = -1 ∧ l.takeWhile (fun x => !p x) = l) ∨ (tr_ix p l i = i + ((l.takeWhile (fun x => !p x)).length : Int) ∧ (l.takeWhile (fun x => !p x)).length < l.length)
  | [], i => .inl ⟨rfl, rfl⟩
  | x :: l, i => by
    unfold tr_ix
    by_cases h : p x = true
    · right; rw [if_pos h]; simp [h]
    · rw [if_neg h]
      rcases tr_ix_spec p l (i + 1) with ⟨h1, h2⟩ | ⟨h1, h2⟩
      · left; exact ⟨h1, by simp [h, h2]⟩
      · right; simp [h]; omega
set_option maxHeartbeats 2000000 in
set_option maxRecDepth 100000 in
theorem tr_indexFunc (cb : Array Value) (A : Option Addr) (c : Nat) (l : List S27) (p : S27 → Bool) (w : World) (hl : l.length ≤ 100000) (hC : Kd.C k27 w A l.length l)
    (hf : ∀ W, Below w.heap.size w W → ∀ x y : Int, Calls Try.prog 33 (#[.agg #[.int .i64 x, .int .i32 y]] ++ cb) W fun e w' => e = .returned (.bool (p ⟨x, y⟩)) ∧ Below W.heap.size W w') :
    Calls Try.prog 32 #[.slice A l.length c, .func (.func 33) #[] cb] w fun e w' => e = .returned (.int .i64 (tr_ix p l 0)) ∧ Below w.heap.size w w' := by
  have HF := Aside0.mk hf
  have HC := Aside0.mk hC
  clear hf hC
  obtain ⟨R, hR⟩ : ∃ R, R = tr_ix p l 0 := ⟨_, rfl⟩
  rw [← hR]
  have HR := Aside0.mk hR
  clear hR
  go_enter Try.func32, Try.ntmps32
  go_wp2
  go_loopg [8] (l.length + 1) (fun kx v8 wr => ∃ i : Nat, v8 = .int .i64 i ∧ Aside0 (i + kx = l.length + 1 ∧ i ≤ l.length) ∧ Aside0 (Below w.heap.size w wr) ∧ Aside0 (tr_ix p (l.drop i) (i : Int) = R))
  case atStart => exact ⟨0, rfl, ⟨⟨by omega, by omega⟩⟩, ⟨Below.refl _ _⟩, ⟨HR.out.symm⟩⟩
  case round =>
    obtain ⟨i, rfl, I, HB, HX⟩ := hrel
    by_cases hi : i < l.length
    · obtain ⟨ad, e, hx0, hx1⟩ := at_T27 HC.out (i : Int) (by omega) (by omega)
      cases e
      rw [Int.toNat_natCast] at hx0 hx1
      have er : rd_T27 l (i : Int) = l[i] := by unfold rd_T27; rw [Int.toNat_natCast]; simp [List.getD_eq_getElem?_getD, hi]
      have hX := HX.out
      rw [List.drop_eq_getElem_cons hi, ← er] at hX
      unfold tr_ix at hX
      replace hx0 := (HB.out.cell (World.block_lt_of_cell? w _ hx0)).trans hx0
      replace hx1 := (HB.out.cell (World.block_lt_of_cell? w _ hx1)).trans hx1
      generalize hz : rd_T27 l (i : Int) = z at hx0 hx1 hX
      obtain ⟨x, y⟩ := z
      clear er hz
      dsimp only at hx0 hx1
      have hi1 : (i : Int) < (l.length : Int) := by omega
      have hi0 : (0 : Int) ≤ (i : Int) := by omega
      have hi2 : (i : Int) ≤ 100000 := by omega
      have hc := HF.out wr HB.out x y
      cases hp : p ⟨x, y⟩
      · rw [hp] at hX hc
        rw [if_neg (by simp)] at hX
        have HX2 := Aside0.mk hX
        have HCL := Aside0.mk hc
        clear hX hp hc
        go_wp2_with (go_at_call 33; ((with_reducible refine HCL.out.mono ?_)); rintro e w3 ⟨rfl, hb⟩; have HB2 := Aside0.mk (below_step HB.out hb); clear hb)
        go_roundg (l.length - i)
        case measure => have := I.out; omega
        case rel => exact ⟨i + 1, by first | rfl | (simp; done), ⟨by have := I.out; omega⟩, HB2, ⟨by rw [show ((i + 1 : Nat) : Int) = (i : Int) + 1 by omega]; exact HX2.out⟩⟩
      · rw [hp] at hX hc
        rw [if_pos rfl] at hX
        have HX2 := Aside0.mk hX
        have HCL := Aside0.mk hc
        clear hX hp hc
        go_wp2_with (go_at_call 33; ((with_reducible refine HCL.out.mono ?_)); rintro e w3 ⟨rfl, hb⟩; have HB2 := Aside0.mk (below_step HB.out hb); clear hb)
        go_ret
        exact ⟨by rw [← HX2.out]; rfl, HB2.out⟩
    · have hX := HX.out
      rw [List.drop_eq_nil_of_le (by omega)] at hX
      have HX2 := Aside0.mk (show R = -1 from hX.symm)
      have hi1 : decide ((i : Int) < (l.length : Int)) = false := decide_eq_false (by omega)
      clear hX
      go_wp2
      go_ret
      exact ⟨by rw [HX2.out]; rfl, HB.out⟩
def tr_until (ex : List Int) (l : List S27) : List S27 := l.takeWhile (fun x => !tr_hit ex x)
theorem tr_until_take (ex : List Int) (l : List S27) : tr_until ex l = l.take (tr_until ex l).length := by
  unfold tr_until
  induction l with
  | nil => rfl
  | cons x l ih =>
    cases h : tr_hit ex x
    · simp only [List.takeWhile_cons, h, Bool.not_false, if_true, List.length_cons, List.take_succ_cons]
      rw [← ih]
    · simp [List.takeWhile_cons, h]
theorem tr_until_len (ex : List Int) (l : List S27) : (tr_until ex l).length ≤ l.length := by
  have h := tr_until_take ex l
  have := congrArg List.length h
  rw [List.length_take] at this
  omega
set_option maxHeartbeats 2000000 in
set_option maxRecDepth 100000 in
theorem trace_Until.calls (A : Option Addr) (c : Nat) (l : List S27) (Ae : Option Addr) (ce : Nat) (ex : List Int) (w : World) (hl : l.length ≤ 100000) (he : ex.length ≤ 100000) (hC : Kd.C k27 w A l.length l) (hc : l.length ≤ c) (hE : Kd.C (Kd.int .i32) w Ae ex.length ex) (hec : ex.length ≤ ce) :
    Calls Try.prog 22 #[.slice A l.length c, .slice Ae ex.length ce] w fun e w' => ∃ v : Value, e = .returned v ∧ Kd.R k27 27 w' w.heap.size (fun _ => True) v (tr_until ex l) ∧ Below w.heap.size w w' := by
  obtain ⟨W0, hW0⟩ : ∃ W0, W0 = w.alloc (.cells #[.slice Ae ex.length ce] 35) := ⟨_, rfl⟩
  have hb0 : Below w.heap.size w W0 := by rw [hW0]; exact below_alloc (Below.refl _ _) _
  have hcell : W0.heap[w.heap.size]? = some (.cells #[.slice Ae ex.length ce] 35 (0, 0)) := by rw [hW0]; exact blk_new w _
  have hix := tr_indexFunc #[.pointer (some ⟨w.heap.size, 0, none⟩)] A c l (tr_hit ex) W0 hl (Kd.C_below hC hb0) (fun W hW x y => by
    have hb := (hW.block w.heap.size (blk_lt hcell)).trans hcell
    exact tr_closure w.heap.size Ae ce ex x y W he hec (cell_of_one hb) (Kd.C_below hE (below_step hb0 hW)) (blk_lt hb))
  have hsp := tr_ix_spec (tr_hit ex) l 0
  have hin := tr_until_take ex l
  have hln := tr_until_len ex l
  have hcl := fun W (hW : Below w.heap.size w W) => slices_CloneEv.calls A c (l.take (tr_until ex l).length) (l.take (tr_until ex l).length) W
    (by have h := Kd.C_take (m := (tr_until ex l).length) (Kd.C_below hC hW) hln; exact h) (by rw [List.length_take]; omega) (by unfold slices_CloneEv.f; rw [if_pos (by rw [List.length_take]; omega)])
  have hl2 : (l.take (tr_until ex l).length).length = (tr_until ex l).length := by rw [List.length_take]; omega
  rw [hl2, ← hin] at hcl
  have hcase : (tr_ix (tr_hit ex) l 0 = -1 ∧ (tr_until ex l).length = l.length) ∨ tr_ix (tr_hit ex) l 0 = ((tr_until ex l).length : Int) := by
    rcases hsp with ⟨h1, h2⟩ | ⟨h1, h2⟩
    · exact .inl ⟨h1, by unfold tr_until; rw [h2]⟩
    · right; rw [h1]; unfold tr_until; omega
  have HCL := Aside0.mk hcl
  have HB0 := Aside0.mk hb0
  have HW0 := Aside0.mk hW0
  clear hcl hin hsp hC hE hb0 hW0 hcell hl2
  generalize hm : (tr_until ex l).length = m at hcase hln HCL
  clear hm
  generalize l.length = n at *
  rcases hcase with ⟨h1, h2⟩ | h1
  · subst h2
    rw [h1] at hix
    have HIX := Aside0.mk hix
    clear hix h1
    go_enter Try.func22, Try.ntmps22
    go_wp2_with (first
      | (go_at_call 32; rw [← HW0.out]; ((with_reducible refine HIX.out.mono ?_)); rintro e w3 ⟨rfl, hb⟩; have HB3 := Aside0.mk (below_step HB0.out hb); clear hb)
      | (go_at_call 35; ((with_reducible refine (HCL.out _ HB3.out).mono ?_)); rintro e w4 ⟨v, rfl, ho, hb⟩; have HO := Aside0.mk (Kd.R_lower ho HB3.out.size); have HB4 := Aside0.mk (below_step HB3.out hb); clear ho hb))
    go_ret
    exact ⟨_, rfl, HO.out, HB4.out⟩
  · rw [h1] at hix
    have HIX := Aside0.mk hix
    have hm0 : decide ((m : Int) < 0) = false := decide_eq_false (by omega)
    have hm1 : (m : Int) ≤ (n : Int) := by omega
    have hm2 : (0 : Int) ≤ (m : Int) := by omega
    have hm3 : m ≤ c := by omega
    clear hix h1
    go_enter Try.func22, Try.ntmps22
    go_wp2_with (first
      | (go_at_call 32; rw [← HW0.out]; ((with_reducible refine HIX.out.mono ?_)); rintro e w3 ⟨rfl, hb⟩; have HB3 := Aside0.mk (below_step HB0.out hb); clear hb)
      | (go_at_call 35; ((with_reducible refine (HCL.out _ HB3.out).mono ?_)); rintro e w4 ⟨v, rfl, ho, hb⟩; have HO := Aside0.mk (Kd.R_lower ho HB3.out.size); have HB4 := Aside0.mk (below_step HB3.out hb); clear ho hb))
    go_ret
    exact ⟨_, rfl, HO.out, HB4.out⟩

end Go.Proofs.Ytajcopcmahidhaa.P

-- Written by a program of this session (wip/tools/hp.py) out of the translation.
import Derived.Test.YtajcopcmahidhaaPx0
namespace Go.Proofs.Ytajcopcmahidhaa.P
open Go.RowKit Go.Proofs.YtajcopcmahidhaaW.PrintWords Go.Proofs.YtajcopcmahidhaaW.PrintLast Go.Proofs.YtajcopcmahidhaaW.PrintMore
attribute [local go_sem] max2_int min2_int max_two min_two max_three min_three max_four min_four   -- for this text's walks alone
set_option linter.unusedVariables false
set_option linter.unusedSimpArgs false

/-! ### trace_Arms: function 9 -/
def ta_put (ts : List Int) (x : S27) : List Int := if x.f0 = 3 then (if x.f1 / 64 ∈ ts then ts else ts ++ [x.f1 / 64]) else ts
def ta_tries (l : List S27) : List Int := l.foldl ta_put []
def ta_arm (a b : Int) (x : S27) : Int := if x.f0 = 3 ∧ x.f1 / 64 = a then Go.bits .and .i32 x.f1 63 else b
def ta_last (l : List S27) (a : Int) : Int := l.foldl (ta_arm a) 0
def ta_out (l : List S27) (ts : List Int) : List Int := ts.flatMap (fun a => [a, ta_last l a])
theorem ta_tries_snoc (l : List S27) (x : S27) : ta_tries (l ++ [x]) = ta_put (ta_tries l) x := by unfold ta_tries; rw [List.foldl_append]; rfl
theorem ta_last_snoc (l : List S27) (x : S27) (a : Int) : ta_last (l ++ [x]) a = ta_arm a (ta_last l a) x := by unfold ta_last; rw [List.foldl_append]; rfl
theorem ta_tries_len (l : List S27) : ∀ n, (ta_tries (l.take n)).length ≤ n
  | 0 => by simp [ta_tries]
  | n + 1 => by
    have ih := ta_tries_len l n
    by_cases h : n < l.length
    · rw [List.take_succ_eq_append_getElem h, ta_tries_snoc]
      unfold ta_put
      split
      · split
        · omega
        · simp; omega
      · omega
    · rw [List.take_of_length_le (i := n + 1) (by omega)]; rw [List.take_of_length_le (i := n) (by omega)] at ih; omega
theorem ta_law : Maps.Keyed Try.prog 3 := Maps.int_keyed Try.underlying3
theorem ta_zero (w : World) : (zeroValue 3).run Try.prog w = .ok (.int .i64 0) w := by kernel_rfl
theorem ta_info : (Try.prog.info? 3).map (fun i => (i.zero, i.size, i.bytes)) = some (some (.int .i64 0), 1, 8) := by kernel_rfl
abbrev taMap (w : World) (b n : Nat) (D : DataW Unit) : Prop := w.ownsMap Try.prog 3 (plainElem Try.prog 3) b n D
theorem taMap.below {w w1 : World} {b n : Nat} {D : DataW Unit} (h : taMap w b n D) (hb : Below w.heap.size w w1) : taMap w1 b n D := by
  have hl := h.lt
  obtain ⟨es, clock, hh, r⟩ := h
  exact ⟨es, clock, (hb.block b hl).trans hh, r⟩
/-- The map tells of each number whether it was told, and its last arm. -/
def taTells (l : List S27) (D : DataW Unit) : Prop := Maps.IsMap D ∧ ∀ a : Int, (Maps.has D (.int .i64 a) = true ↔ a ∈ ta_tries l) ∧ D.atKey (.int .i64 a) (.lit (.int .i64 0)) = .lit (.int .i64 (ta_last l a))
theorem taTells.skip {l : List S27} {D : DataW Unit} (h : taTells l D) (x : S27) (hx : x.f0 ≠ 3) : taTells (l ++ [x]) D := by
  refine ⟨h.1, fun a => ?_⟩
  rw [ta_tries_snoc, ta_last_snoc]
  unfold ta_put ta_arm
  rw [if_neg hx, if_neg (fun e => hx e.1)]
  exact h.2 a
theorem taTells.put {l : List S27} {D : DataW Unit} (h : taTells l D) (x : S27) (hx : x.f0 = 3) (hm : Maps.IsMap (D.put (.int .i64 (x.f1 / 64)) (.lit (.int .i64 (Go.bits .and .i32 x.f1 63))))) : taTells (l ++ [x]) (D.put (.int .i64 (x.f1 / 64)) (.lit (.int .i64 (Go.bits .and .i32 x.f1 63)))) := by
  refine ⟨hm, fun a => ?_⟩
  rw [ta_tries_snoc, ta_last_snoc]
  have h1 : (a ∈ ta_put (ta_tries l) x) = (a = x.f1 / 64 ∨ a ∈ ta_tries l) := by
    unfold ta_put
    rw [if_pos hx]
    split
    · rename_i hm; apply propext; exact ⟨.inr, fun h => h.elim (fun e => e ▸ hm) id⟩
    · apply propext; rw [List.mem_append, List.mem_singleton]; exact Or.comm
  rw [h1]
  unfold ta_arm
  by_cases ha : x.f1 / 64 = a
  · subst ha
    rw [if_pos ⟨hx, rfl⟩, Maps.has_put_same h.1 (by trivial), Maps.atKey_put_same h.1 (by trivial)]
    exact ⟨⟨fun _ => .inl rfl, fun _ => rfl⟩, rfl⟩
  · rw [if_neg (fun e => ha e.2), Maps.has_put_other (by simpa using fun e => ha e.symm), Maps.atKey_put_other (by simpa using fun e => ha e.symm)]
    exact ⟨(h.2 a).1.trans ⟨.inr, fun h => h.elim (fun e => absurd e.symm ha) id⟩, (h.2 a).2⟩
theorem ta_out_len (l : List S27) (ts : List Int) : (ta_out l ts).length = 2 * ts.length := by
  unfold ta_out
  induction ts with
  | nil => rfl
  | cons a ts ih => rw [List.flatMap_cons, List.length_append, ih]; simp; omega
theorem ta_out_snoc (l : List S27) (ts : List Int) (a : Int) : ta_out l (ts ++ [a]) = ta_out l ts ++ [a, ta_last l a] := by unfold ta_out; simp
structure ta_Inv (w wr : World) (v : Value) (l : List S27) (i : Nat) (D : DataW Unit) : Prop where
  row : Kd.R (Kd.int .i64) 3 wr w.heap.size (fun k => k ≠ w.heap.size) v (ta_tries (l.take i))
  map : taMap wr w.heap.size i D
  tells : taTells (l.take i) D
  below : Below w.heap.size w wr
theorem ta_Inv.put {w W w5 : World} {v : Value} {l : List S27} {i : Nat} {x y : Int} {D : DataW Unit} (hT : l.take (i + 1) = l.take i ++ [⟨x, y⟩]) (hx : x = 3) (tl : taTells (l.take i) D)
    (hr : Kd.R (Kd.int .i64) 3 W w.heap.size (fun k => k ≠ w.heap.size) v (ta_tries (l.take (i + 1)))) (hb : Below w.heap.size w W) (hm : taMap w5 w.heap.size (i + 1) (D.put (.int .i64 (y / 64)) (.lit (.int .i64 (Go.bits .and .i32 y 63))))) (hg : W.grownBy w5 (some w.heap.size)) :
    ta_Inv w w5 v l (i + 1) (D.put (.int .i64 (y / 64)) (.lit (.int .i64 (Go.bits .and .i32 y 63)))) := by
  refine ⟨Kd.R_grown hr hg (fun k hk e => hk (by injection e)), hm, ?_, hb.grown hg hb.size (fun k e => by injection e with e; omega)⟩
  rw [hT]
  exact tl.put ⟨x, y⟩ hx hm.isMap
theorem ta_Inv.skip {w wr W : World} {v : Value} {l : List S27} {i : Nat} {z : S27} {D : DataW Unit} (h : ta_Inv w wr v l i D) (hT : l.take (i + 1) = l.take i ++ [z]) (hx : z.f0 ≠ 3) (hb : Below wr.heap.size wr W) : ta_Inv w W v l (i + 1) D := by
  refine ⟨?_, (h.map.below hb).mono (Nat.le_succ i), ?_, below_step h.below hb⟩
  · rw [hT, ta_tries_snoc]
    unfold ta_put
    rw [if_neg hx]
    exact Kd.R_below h.row hb
  · rw [hT]; exact h.tells.skip z hx
theorem ta_wf (y : Int) (h : -2147483648 ≤ y ∧ y ≤ 2147483647) : (Lit.int .i64 (y / 64)).wf = true ∧ (Lit.int .i64 (Go.bits .and .i32 y 63)).wf = true := by
  have hw := Go.wf_bits .and .i32 y 63
  have := bounds_i32 hw
  constructor
  · simp [Lit.wf, IntKind.min, IntKind.max, IntKind.signed, IntKind.bits]; omega
  · simp [Lit.wf, IntKind.min, IntKind.max, IntKind.signed, IntKind.bits]; omega
theorem ta_tries_wf (l : List S27) (h : ∀ x ∈ l, -2147483648 ≤ x.f1 ∧ x.f1 ≤ 2147483647) : ∀ n, ∀ a ∈ ta_tries (l.take n), (Lit.int .i64 a).wf = true
  | 0 => by simp [ta_tries]
  | n + 1 => by
    have ih := ta_tries_wf l h n
    by_cases hn : n < l.length
    · rw [List.take_succ_eq_append_getElem hn, ta_tries_snoc]
      unfold ta_put
      intro a ha
      split at ha
      · split at ha
        · exact ih a ha
        · rw [List.mem_append, List.mem_singleton] at ha
          rcases ha with ha | rfl
          · exact ih a ha
          · exact (ta_wf _ (h _ (List.getElem_mem hn))).1
      · exact ih a ha
    · rw [List.take_of_length_le (i := n + 1) (by omega)]; rw [List.take_of_length_le (i := n) (by omega)] at ih; exact ih
def trace_Arms.f (l : List S27) : Option (List Int) := if l.length ≤ 1000 ∧ (∀ x ∈ l, -2147483648 ≤ x.f1 ∧ x.f1 ≤ 2147483647) then some (ta_out l (ta_tries l)) else none
set_option maxHeartbeats 8000000 in
set_option maxRecDepth 100000 in
theorem trace_Arms.calls (A0 : Option Addr) (c0 : Nat) (l0 : List (S27)) (r : List Int) (w : World) (hr0 : Kd.C k27 w A0 l0.length l0) (hc0 : l0.length ≤ c0) (h : trace_Arms.f l0 = some r) :
    Calls Try.prog 9 #[.slice A0 l0.length c0] w fun e w' => ∃ v0_ : Value, e = .returned (v0_) ∧ Kd.R (Kd.int .i64) 3 w' w.heap.size (fun _ => True) v0_ r ∧ Below w.heap.size w w' := by
  unfold trace_Arms.f at h
  by_cases hh : l0.length ≤ 1000 ∧ (∀ x ∈ l0, -2147483648 ≤ x.f1 ∧ x.f1 ≤ 2147483647)
  · rw [if_pos hh] at h
    injection h with h
    have HRES := Aside0.mk h
    have HC := Aside0.mk hr0
    have HV := Aside0.mk hh.2
    have hl := hh.1
    clear h hr0 hh hc0
    go_enter Try.func9, Try.ntmps9
    have hmm := @run_makeMap Try.prog
    go_wp2
    go_loopg [3, 16] (l0.length + 1) (fun kx v3 v16 wr => ∃ i : Nat, v16 = .int .i64 (i : Int) ∧ Aside0 (i + kx = l0.length + 1 ∧ i ≤ l0.length) ∧ ∃ D, Aside0 (ta_Inv w wr v3 l0 i D))
    case atStart =>
      refine ⟨0, rfl, ⟨by omega, by omega⟩, .map [], ⟨⟨?_, World.ownsMap_made w _ _ _, ⟨⟨_, rfl⟩, fun a => ⟨by simp [Maps.has, ta_tries], rfl⟩⟩, below_alloc (Below.refl _ _) _⟩⟩⟩
      exact Kd.R_nil _ _ _ _ _
    case round =>
      obtain ⟨i, rfl, I, D, HI⟩ := hrel
      obtain ⟨A3, c3, e3⟩ := Kd.R_slice HI.out.row
      subst e3
      by_cases hi : i < l0.length
      · obtain ⟨ad, e, hx0, hx1⟩ := at_T27 HC.out (i : Int) (by omega) (by omega)
        cases e
        rw [Int.toNat_natCast] at hx0 hx1
        have er : rd_T27 l0 (i : Int) = l0[i] := by unfold rd_T27; rw [Int.toNat_natCast]; simp [List.getD_eq_getElem?_getD, hi]
        have htk : l0.take (i + 1) = l0.take i ++ [rd_T27 l0 (i : Int)] := by rw [er, List.take_succ_eq_append_getElem hi]
        have hlx := HV.out (rd_T27 l0 (i : Int)) (by rw [er]; exact List.getElem_mem _)
        generalize hz : rd_T27 l0 (i : Int) = z at hx0 hx1 htk hlx
        obtain ⟨x, y⟩ := z
        have HT := Aside0.mk htk
        have HX := Aside0.mk hlx
        clear er hz htk hlx
        replace hx0 := (HI.out.below.cell (World.block_lt_of_cell? w _ hx0)).trans hx0
        replace hx1 := (HI.out.below.cell (World.block_lt_of_cell? w _ hx1)).trans hx1
        dsimp only at hx0 hx1
        have hi1 : (i : Int) < (l0.length : Int) := by omega
        have hi0 : (0 : Int) ≤ (i : Int) := by omega
        have hi2 : (i : Int) ≤ 1000 := by omega
        have hy0 : -2147483648 ≤ y := HX.out.1
        have hy1 : y ≤ 2147483647 := HX.out.2
        have HK := Aside0.mk (ta_wf y HX.out)
        have hwk : IntKind.i64.wrap (y / 64) = y / 64 := IntWalk.i64_in _ (by omega)
        have hwa : IntKind.i64.wrap (Go.bits .and .i32 y 63) = Go.bits .and .i32 y 63 := IntWalk.i64_in _ (by have hw := Go.wf_bits .and .i32 y 63; have := bounds_i32 hw; omega)
        by_cases c0 : x = 3
        · have b0 : (x == 3) = true := beq_iff_eq.mpr c0
          by_cases hmem : y / 64 ∈ ta_tries (l0.take i)
          · have hhas := ((HI.out.tells.2 (y / 64)).1).mpr hmem
            go_wp2_with (first
              | (at_lookup; refine wpList_lookup_own_ok_int _ rfl _ _ 43 rfl 3 3 .i64 ta_law Try.underlying43 Try.underlying3 (ta_zero _) w.heap.size i D rfl ?m1 (.int .i64 (y / 64)) (.int .i64 (y / 64)) rfl ?m2 ?_; (case m1 => exact HI.out.map.below (by repeat (first | exact Below.refl _ _ | apply below_alloc | refine below_set ?_ (by simp)))); (case m2 => exact Maps.keyOf_int_mk Try.underlying3 HK.out.1); intro cv hat hwc; clear hat hwc)
              | (at_mapUpdate; refine wpList_mapUpdate_own (H := Unit) _ ?n1 (.tmp 39) (.tmp 40) (.tmp 44) 43 ?n2 3 3 ta_law Try.underlying43 (plainElem Try.prog 3) w.heap.size i D ?n3 ?m3 ?m4 (.int .i64 (y / 64)) (.int .i64 (Go.bits .and .i32 y 63)) (.int .i64 (y / 64)) ?n4 ?n5 ?m5 (.lit (.int .i64 (Go.bits .and .i32 y 63))) [] ?m6 ?_; (case n1 => rfl); (case n2 => rfl); (case n3 => rfl); (case n4 => rfl); (case n5 => rfl); (case m3 => exact HI.out.map.below (by repeat (first | exact Below.refl _ _ | apply below_alloc | refine below_set ?_ (by simp)))); (case m4 => simp only [maxLen]; omega); (case m5 => exact Maps.keyOf_int_mk Try.underlying3 HK.out.1); (case m6 => exact plainElem_int Try.underlying3 HK.out.2); intro w5 hm5 hg5; have HM5 := Aside0.mk hm5; have HG5 := Aside0.mk hg5; clear hm5 hg5))
            go_roundg (l0.length - i)
            case measure => have := I.out; omega
            case rel =>
              refine ⟨i + 1, by first | rfl | (simp; done), ⟨by have := I.out; omega⟩, _, ⟨ta_Inv.put HT.out c0 HI.out.tells ?_ (below_step HI.out.below (below_alloc (Below.refl _ _) _)) HM5.out HG5.out⟩⟩
              rw [HT.out, ta_tries_snoc]
              unfold ta_put
              rw [if_pos c0, if_pos hmem]
              exact Kd.R_below HI.out.row (below_alloc (Below.refl _ _) _)
          · have hhas : Maps.has D (.int .i64 (y / 64)) = false := by
              cases h : Maps.has D (.int .i64 (y / 64))
              · rfl
              · exact absurd (((HI.out.tells.2 (y / 64)).1).mp h) hmem
            have HLN := Aside0.mk (Nat.le_trans (ta_tries_len l0 i) (by omega : i ≤ 1000))
            go_wp2_with (first
              | (at_lookup; refine wpList_lookup_own_ok_int _ rfl _ _ 43 rfl 3 3 .i64 ta_law Try.underlying43 Try.underlying3 (ta_zero _) w.heap.size i D rfl ?mb1 (.int .i64 (y / 64)) (.int .i64 (y / 64)) rfl ?mb2 ?_; (case mb1 => exact HI.out.map.below (by repeat (first | exact Below.refl _ _ | apply below_alloc | refine below_set ?_ (by simp)))); (case mb2 => exact Maps.keyOf_int_mk Try.underlying3 HK.out.1); intro cv hat hwc; clear hat hwc)
              | ((with_reducible refine gate_builtin (b := .append) (xs := #[.tmp 35, .tmp 37]) rfl ?_); at_builtin; refine Kd.R_append (Kd.int .i64) (w0 := w) w.heap.size ?q1 (.tmp 35) (.tmp 37) 24 3 (.int .i64 0) 8 ?q2 Try.underlying24 ta_info ?q3 (by decide) (by omega) (.slice A3 (ta_tries (l0.take i)).length c3) (ta_tries (l0.take i)) (y / 64) [.int .i64 (y / 64)] (fun k => k ≠ w.heap.size) (fun _ => False) ?q4 ?q5 ?q6 (fun _ hk => hk.elim) ?q7 ?q8 ?q9 ?q10 ?q11 ?_; (case q1 => rfl); (case q2 => rfl); (case q3 => rfl); (case q4 => rfl); (case q5 => show Value.slice (some ⟨wr.heap.size + 1, 0, none⟩) 1 1 = _; rw [show ∀ o : Obj, (wr.alloc o).heap.size = wr.heap.size + 1 from fun o => by simp]); (case q6 => exact rfl); (case q7 => exact fun k hk => by have := HI.out.below.size; have := HI.out.map.lt; simp at hk; omega); (case q8 => exact Kd.R_below HI.out.row (by repeat (first | exact Below.refl _ _ | apply below_alloc))); (case q9 => exact below_step HI.out.below (by repeat (first | exact Below.refl _ _ | apply below_alloc))); (case q10 => exact (below_step HI.out.below (by repeat (first | exact Below.refl _ _ | apply below_alloc))).size); (case q11 => have := HLN.out; omega); intro v9 w9 ho hb hgr hat9; have hbox := blk_grown (blk_new wr (.cells #[.int .i64 3, .int .i32 y] 27)) hgr (Kd.R_ne (Kd.R_below HI.out.row (below_alloc (Below.refl _ _) _)) (blk_new wr (.cells #[.int .i64 3, .int .i32 y] 27)) (by decide : (3 : Nat) ≠ 27)); have hc9 := blk_cell hbox 1; have HR9 := Aside0.mk ho; have HB9 := Aside0.mk hb; have HM9 := Aside0.mk ((HI.out.map.below (below_alloc (Below.refl _ _) _)).kept hgr (fun e => HI.out.row.1 _ e.symm rfl)); clear ho hb hgr hat9 hbox; simp at hc9)
              | (at_mapUpdate; refine wpList_mapUpdate_own (H := Unit) _ ?nb1 (.tmp 39) (.tmp 40) (.tmp 44) 43 ?nb2 3 3 ta_law Try.underlying43 (plainElem Try.prog 3) w.heap.size i D ?nb3 ?mb3 ?mb4 (.int .i64 (y / 64)) (.int .i64 (Go.bits .and .i32 y 63)) (.int .i64 (y / 64)) ?nb4 ?nb5 ?mb5 (.lit (.int .i64 (Go.bits .and .i32 y 63))) [] ?mb6 ?_; (case nb1 => rfl); (case nb2 => rfl); (case nb3 => rfl); (case nb4 => rfl); (case nb5 => rfl); (case mb3 => exact HM9.out); (case mb4 => simp only [maxLen]; omega); (case mb5 => exact Maps.keyOf_int_mk Try.underlying3 HK.out.1); (case mb6 => exact plainElem_int Try.underlying3 HK.out.2); intro w5 hm5 hg5; have HM5 := Aside0.mk hm5; have HG5 := Aside0.mk hg5; clear hm5 hg5))
            go_roundg (l0.length - i)
            case measure => have := I.out; omega
            case rel =>
              refine ⟨i + 1, by first | rfl | (simp; done), ⟨by have := I.out; omega⟩, _, ⟨ta_Inv.put HT.out c0 HI.out.tells ?_ HB9.out HM5.out HG5.out⟩⟩
              rw [HT.out, ta_tries_snoc]
              unfold ta_put
              rw [if_pos c0, if_neg hmem]
              exact HR9.out
        · have b0 : (x == 3) = false := beq_eq_false_iff_ne.mpr c0
          go_wp2
          go_roundg (l0.length - i)
          case measure => have := I.out; omega
          case rel => exact ⟨i + 1, by first | rfl | (simp; done), ⟨by have := I.out; omega⟩, _, ⟨ta_Inv.skip HI.out HT.out c0 (by repeat (first | exact Below.refl _ _ | apply below_alloc | refine below_set ?_ (by simp)))⟩⟩
      · have hi1 : decide ((i : Int) < (l0.length : Int)) = false := decide_eq_false (by omega)
        rename World => w1
        have hT : l0.take i = l0 := List.take_of_length_le (by omega)
        have HROW := Aside0.mk HI.out.row
        have HMAP := Aside0.mk HI.out.map
        have HTL := Aside0.mk (show taTells l0 D from by have h := HI.out.tells; rw [hT] at h; exact h)
        have HB := Aside0.mk HI.out.below
        have HLN := Aside0.mk (Nat.le_trans (ta_tries_len l0 i) (by have := I.out.2; omega : i ≤ 1000))
        have HWF := Aside0.mk (ta_tries_wf l0 HV.out i)
        have HTS := Aside0.mk (show ta_tries (l0.take i) = ta_tries l0 by rw [hT])
        clear HI hT
        generalize ta_tries (l0.take i) = ts at *
        have HCELL := Aside0.mk (Kd.R_reads' HROW.out).2.2
        have hln : ts.length ≤ 1000 := HLN.out
        go_wp2
        go_loopg [10, 48] (ts.length + 1) (fun kx v10 v48 we => ∃ j : Nat, v48 = .int .i64 (j : Int) ∧ Aside0 (j + kx = ts.length + 1 ∧ j ≤ ts.length) ∧ Aside0 (Below w1.heap.size w1 we ∧ Kd.R (Kd.int .i64) 3 we w1.heap.size (fun _ => True) v10 (ta_out l0 (ts.take j))))
        case atStart => exact ⟨0, rfl, ⟨⟨by omega, by omega⟩⟩, ⟨⟨Below.refl _ _, Kd.R_nil _ _ _ _ _⟩⟩⟩
        case round =>
          obtain ⟨j, rfl, J, HW⟩ := hrel
          obtain ⟨A10, c10, e10⟩ := Kd.R_slice HW.out.2
          subst e10
          by_cases hj : j < ts.length
          · obtain ⟨ad, e, hx⟩ := Kd.at_int HCELL.out (j : Int) (by omega) (by omega)
            cases e
            rw [Int.toNat_natCast] at hx
            have er : rd ts (j : Int) = ts[j] := by unfold rd; rw [Int.toNat_natCast]; simp [List.getD_eq_getElem?_getD, hj]
            have htk : ts.take (j + 1) = ts.take j ++ [rd ts (j : Int)] := by rw [er, List.take_succ_eq_append_getElem hj]
            have hwf := HWF.out (rd ts (j : Int)) (by rw [er]; exact List.getElem_mem _)
            replace hx := (HW.out.1.cell (World.block_lt_of_cell? w1 _ hx)).trans hx
            generalize rd ts (j : Int) = a at hx htk hwf
            have HT := Aside0.mk htk
            have HKW := Aside0.mk hwf
            have hj1 : (j : Int) < (ts.length : Int) := by omega
            have hj0 : (0 : Int) ≤ (j : Int) := by omega
            have hj2 : (j : Int) ≤ 1000 := by omega
            have HOL := Aside0.mk (ta_out_len l0 (ts.take j))
            clear er htk hwf
            generalize hO : ta_out l0 (ts.take j) = O at HW HOL
            have HOO := Aside0.mk hO
            clear hO
            have HL2 := Aside0.mk (show O.length ≤ 2000 by have := HOL.out; rw [List.length_take] at this; omega)
            go_wp2_with (first
              | (at_lookup; refine wpList_lookup_own_int (H := Unit) _ ?u1 (.tmp 54) (.tmp 55) 43 ?u2 3 3 .i64 ta_law Try.underlying43 Try.underlying3 (ta_zero _) w.heap.size i D ?u3 ?u4 (.int .i64 a) (.int .i64 a) ?u5 ?u6 ?_; (case u1 => rfl); (case u2 => rfl); (case u3 => rfl); (case u5 => rfl); (case u4 => exact HMAP.out.below HW.out.1); (case u6 => exact Maps.keyOf_int_mk Try.underlying3 HKW.out); intro cv hat hwc; have hcv : cv = ta_last l0 a := (by have h2 := (HTL.out.2 a).2.symm.trans hat; injection h2 with h2; injection h2 with _ h2; exact h2.symm); have HCV := Aside0.mk hcv; clear hat hwc hcv)
              | ((with_reducible refine gate_dst (N := 57) rfl ?_); refine Kd.R_lit (Kd.int .i64) _ 3 ?hg (N := 57) ?hd (xs := ([a, cv] : List Int)) (inner := [.int .i64 a, .int .i64 cv]) (ok := fun _ => True) (okp := fun _ => True) ?hr ?hp (fun _ hk => hk) trivial (Below.refl _ _) (Nat.le_refl _) (by simp) ?_; (case hd => rfl); (case hg => rfl); (case hr => first | (go_simp; done) | (go_simp; rfl)); (case hp => exact (Reps.one (show Kd.M (Kd.int .i64) _ _ _ a [.int .i64 a] from rfl) (Reps.one (show Kd.M (Kd.int .i64) _ _ _ cv [.int .i64 cv] from rfl) (Reps.none _ _)))); intro v57 w57 ho57 hb57 hg_ hnew_; clear hg_ hnew_; obtain ⟨A57, c57, e57⟩ := Kd.R_slice ho57; subst e57; have HO57 := Aside0.mk ho57; have HB57 := Aside0.mk hb57; clear ho57 hb57)
              | ((with_reducible refine gate_builtin (b := .append) (xs := #[.tmp 52, .tmp 57]) rfl ?_); at_builtin; refine Kd.R_append_rows (Kd.int .i64) (w0 := w1) w1.heap.size ?t1 (.tmp 52) (.tmp 57) 24 3 (.int .i64 0) 8 ?t2 Try.underlying24 ta_info ?t3 (by decide) (by omega) (.slice A10 O.length c10) O [a, cv] A57 2 c57 (fun _ => True) (fun _ => False) ?t4 ?t5 ?t6 ?t7 (fun _ _ h => h) (fun _ h => h.elim) ?t8 ?t9 ?t10 ?t11 ?_; (case t1 => rfl); (case t2 => rfl); (case t3 => rfl); (case t4 => rfl); (case t5 => rfl); (case t6 => exact Kd.R_below HW.out.2 HB57.out); (case t7 => exact (Kd.R_reads' HO57.out).2.2); (case t8 => exact fun _ _ => trivial); (case t9 => exact below_step HW.out.1 HB57.out); (case t10 => exact (below_step HW.out.1 HB57.out).size); (case t11 => have := HL2.out; omega); intro v58 w58 ho hb hgr hat; have HO58 := Aside0.mk ho; have HB58 := Aside0.mk hb; clear ho hb hgr hat))
            go_roundg (ts.length - j)
            case measure => have := J.out; omega
            case rel =>
              refine ⟨j + 1, by first | rfl | (simp; done), ⟨by have := J.out; omega⟩, ⟨⟨HB58.out, ?_⟩⟩⟩
              rw [HT.out, ta_out_snoc, HOO.out, ← HCV.out]
              exact HO58.out
          · have hj1 : decide ((j : Int) < (ts.length : Int)) = false := decide_eq_false (by omega)
            go_wp2
            go_ret
            have ej : j = ts.length := by have := J.out; omega
            have hr := HW.out.2
            rw [ej, List.take_length, HTS.out, HRES.out] at hr
            rw [ej, List.take_length, HTS.out, HRES.out]
            exact ⟨_, rfl, Kd.R_lower hr HB.out.size, below_step HB.out HW.out.1⟩
  · rw [if_neg hh] at h; exact absurd h (by simp)

end Go.Proofs.Ytajcopcmahidhaa.P

-- Written by a program of this session (wip/tools/hp.py) out of the translation.
import Derived.Test.YtbhccjoodlldbaaPx0
import Derived.Test.YtbhccjoodlldbaaPx10
namespace Go.Proofs.Ytbhccjoodlldbaa.P
open Go.RowKit Go.Proofs.YtbhccjoodlldbaaW.PrintWords Go.Proofs.YtbhccjoodlldbaaW.PrintLast Go.Proofs.YtbhccjoodlldbaaW.PrintMore
attribute [local go_sem] max2_int min2_int max_two min_two max_three min_three max_four min_four   -- for this text's walks alone
set_option linter.unusedVariables false
set_option linter.unusedSimpArgs false

/-! ### cover_Hot: function 10 -/
set_option maxHeartbeats 4000000 in
set_option maxRecDepth 100000 in
theorem ht_ins_none (p : Option Addr) (cap : Nat) (fv : Value) (w : World) : Calls Try.prog 29 #[.slice p 0 cap, .int .i64 0, .int .i64 0, fv] w fun e w' => e = .returned (.tuple #[]) ∧ w' = w := by
  go_enter Try.func29, Try.ntmps29
  go_wp2
  refine wp_loop_rounds 1 ?_
  rw [rounds_succ]
  go_wp2
  go_end0
  exact ⟨rfl, rfl⟩
set_option maxHeartbeats 4000000 in
set_option maxRecDepth 100000 in
theorem ht_stable_none (p : Option Addr) (cap : Nat) (fv : Value) (w : World) : Calls Try.prog 24 #[.slice p 0 cap, .int .i64 0, fv] w fun e w' => e = .returned (.tuple #[]) ∧ w' = w := by
  go_enter Try.func24, Try.ntmps24
  go_wp2
  refine wp_loop_rounds 1 ?_
  rw [rounds_succ]
  go_wp2_with (go_at_call 29; refine (ht_ins_none p cap fv _).mono ?_; rintro e w2 ⟨rfl, rfl⟩)
  refine wp_loop_rounds 1 ?_
  rw [rounds_succ]
  go_wp2
  go_end0
  exact ⟨rfl, rfl⟩
set_option maxHeartbeats 4000000 in
set_option maxRecDepth 100000 in
theorem ht_top_none (p : Option Addr) (cap : Nat) (fv : Value) (w : World) : Calls Try.prog 16 #[.slice p 0 cap, fv] w fun e w' => e = .returned (.tuple #[]) ∧ w' = w := by
  go_enter Try.func16, Try.ntmps16
  go_wp2_with (go_at_call 24; refine (ht_stable_none p cap fv _).mono ?_; rintro e w2 ⟨rfl, rfl⟩)
  go_end0
  exact ⟨rfl, rfl⟩
set_option maxHeartbeats 4000000 in
set_option maxRecDepth 100000 in
theorem ht_nan (a : Int) (w : World) : Calls Try.prog 25 #[.int .i64 a] w fun e w' => e = .returned (.bool false) ∧ w' = w := by
  go_enter Try.func25, Try.ntmps25
  go_wp2
  go_ret
  exact ⟨by first | rfl | simp, rfl⟩
set_option maxHeartbeats 4000000 in
set_option maxRecDepth 100000 in
theorem ht_compare (a b : Int) (w : World) : Calls Try.prog 18 #[.int .i64 a, .int .i64 b] w fun e w' => e = .returned (.int .i64 (C.ht_cmp a b)) ∧ w' = w := by
  unfold C.ht_cmp
  rcases Int.lt_trichotomy a b with h | h | h
  · rw [if_pos h]
    go_enter Try.func18, Try.ntmps18
    go_wp2_with (go_at_call 25; refine (ht_nan _ _).mono ?_; rintro e w2 ⟨rfl, rfl⟩)
    go_ret
    exact ⟨rfl, rfl⟩
  · subst h
    rw [if_neg (by omega), if_neg (by omega)]
    have h1 : ¬ a < a := by omega
    go_enter Try.func18, Try.ntmps18
    go_wp2_with (go_at_call 25; refine (ht_nan _ _).mono ?_; rintro e w2 ⟨rfl, rfl⟩)
    go_ret
    exact ⟨rfl, rfl⟩
  · have h1 : ¬ a < b := by omega
    rw [if_neg h1, if_pos h]
    go_enter Try.func18, Try.ntmps18
    go_wp2_with (go_at_call 25; refine (ht_nan _ _).mono ?_; rintro e w2 ⟨rfl, rfl⟩)
    go_ret
    exact ⟨rfl, rfl⟩
set_option maxHeartbeats 4000000 in
set_option maxRecDepth 100000 in
theorem ht_closure (b0 : Nat) (ad : Addr) (n c0 x y : Nat) (vx vy : Int) (W : World) (hx : x < n) (hy : y < n) (hn : n < 4611686018427387904) (h0 : W.cell? ⟨b0, 0, none⟩ = some (.slice (some ad) n c0)) (h1 : W.cell? (ad.add x) = some (.int .i64 vx)) (h2 : W.cell? (ad.add y) = some (.int .i64 vy)) :
    Calls Try.prog 17 #[.int .i64 x, .int .i64 y, .pointer (some ⟨b0, 0, none⟩)] W fun e w' => e = .returned (.int .i64 (C.ht_cmp vy vx)) ∧ ∃ q, w' = W.drewN q := by
  have hxz : (x : Int) < (n : Int) := by omega
  have hyz : (y : Int) < (n : Int) := by omega
  have hx0 : (0 : Int) ≤ (x : Int) := by omega
  have hy0 : (0 : Int) ≤ (y : Int) := by omega
  go_enter Try.func17, Try.ntmps17
  go_wp2
  go_quiet (first | (go_at_call 18; refine Calls.quiet_of ((ht_compare _ _ _).mono fun e w' h => ⟨h.1, 0, h.2⟩)))
  go_wp2
  go_ret
  exact ⟨rfl, _, rfl⟩
theorem ht_own {w : World} {base : Nat} {ok : Nat → Prop} {v : Value} {xs : List Int} (h : Kd.R (Kd.int .i64) 3 w base ok v xs) (hn : 0 < xs.length) : ∃ (g cap : Nat) (cur : Array Value), v = .slice (some ⟨g, 0, none⟩) xs.length cap ∧ base ≤ g ∧ w.heap[g]? = some (.cells cur 3 (0, 0)) ∧ xs.length ≤ cap ∧ cap ≤ maxLen ∧ cur.size = cap ∧ ok g ∧ cur.toList.take xs.length = xs.map (Value.int .i64) := by
  obtain ⟨hok, inner, ⟨hl, ho⟩, hr⟩ := h
  rcases ho with ⟨_, h0⟩ | ⟨g, cap, cur, rfl, hb, hh, hnc, hcm, hcs, ht⟩
  · omega
  · have hl1 : inner.length = xs.length := by rw [hl]; exact Nat.mul_one _
    have e : inner = xs.map (Value.int .i64) := by
      refine List.ext_getElem (by rw [hl1, List.length_map]) fun j h1 h2 => ?_
      have hj : j < xs.length := by omega
      have hm : (inner.drop (j * 1)).take 1 = [Value.int .i64 xs[j]] := hr.2 j xs[j] (List.getElem?_eq_getElem hj)
      rw [Nat.mul_one] at hm
      have h3 : ((inner.drop j).take 1)[0]? = some (Value.int .i64 xs[j]) := by rw [hm]; rfl
      rw [List.getElem?_take, if_pos (by omega), List.getElem?_drop, Nat.add_zero, List.getElem?_eq_getElem h1] at h3
      rw [List.getElem_map]
      exact Option.some.inj h3
    exact ⟨g, cap, cur, rfl, hb, hh, hnc, hcm, by rw [hcs]; exact Nat.mul_one _, hok g rfl, by rw [← e, ← ht]; show _ = cur.toList.take (xs.length * 1); rw [Nat.mul_one]⟩
theorem ht_made {w : World} {base g cap : Nat} {ok : Nat → Prop} {cur : Array Value} {xs : List Int} (hok : ok g) (hb : base ≤ g) (hh : w.heap[g]? = some (.cells cur 3 (0, 0))) (hnc : xs.length ≤ cap) (hcm : cap ≤ maxLen) (hcs : cur.size = cap) (ht : cur.toList.take xs.length = xs.map (Value.int .i64)) :
    Kd.R (Kd.int .i64) 3 w base ok (.slice (some ⟨g, 0, none⟩) xs.length cap) xs := by
  refine ⟨fun k hk => ?_, xs.map (Value.int .i64), ⟨?_, .inr ⟨g, cap, cur, rfl, hb, hh, hnc, hcm, ?_, ?_⟩⟩, ?_, fun j q hq => ?_⟩
  · simp only [Value.ownBlock, Option.some.injEq] at hk
    rw [← hk]
    exact hok
  · show _ = xs.length * 1
    rw [List.length_map, Nat.mul_one]
  · show _ = cap * 1
    rw [hcs, Nat.mul_one]
  · show cur.toList.take (xs.length * 1) = _
    rw [Nat.mul_one]
    exact ht
  · show _ = xs.length * 1
    rw [List.length_map, Nat.mul_one]
  · show ((xs.map (Value.int .i64)).drop (j * 1)).take 1 = [Value.int .i64 q]
    obtain ⟨hj, e⟩ := List.getElem?_eq_some_iff.1 hq
    rw [Nat.mul_one]
    refine List.ext_getElem? fun i => ?_
    rw [List.getElem?_take, List.getElem?_drop]
    cases i with
    | zero => rw [if_pos (by omega), Nat.add_zero, List.getElem?_map, hq]; rfl
    | succ i => rw [if_neg (by omega)]; rfl
open Go.Sort in
theorem ht_block {α : Type} [Inhabited α] {enc : α → Value} {w : World} {g n : Nat} {d : Array α} {os : Array Obj} {cur : Array Value} {t : TypeId} (h : w.heap[g]? = some (.cells cur t (0, 0))) : (sortWorld enc w g 0 n d os).heap[g]? = some (.cells (putCells enc 0 d cur) t (0, 0)) := by
  have hg := blk_lt h
  unfold sortWorld grow putRow mapBlock Sort.ahead
  dsimp only
  rw [Array.getElem?_append_left (by simpa using hg), Array.getElem?_modify, if_pos rfl, h]
  rfl
open Go.Sort in
theorem ht_putcells {α : Type} [Inhabited α] {enc : α → Value} {d : Array α} {cur : Array Value} (h : d.size ≤ cur.size) : (putCells enc 0 d cur).toList.take d.size = d.toList.map enc := by
  refine List.ext_getElem? fun j => ?_
  unfold putCells
  rw [List.getElem?_take, List.getElem?_map, Array.getElem?_toList, Array.getElem?_toList, Array.getElem?_mapIdx]
  by_cases hj : j < d.size
  · rw [if_pos hj, Array.getElem?_eq_getElem (by omega : j < cur.size), Array.getElem?_eq_getElem hj]
    simp only [Option.map_some, Nat.zero_le, true_and, Nat.zero_add, hj, if_true, Nat.sub_zero]
    rw [getElem!_pos d j hj]
  · rw [if_neg hj, Array.getElem?_eq_none (by omega)]
    rfl
open Go.Sort in
theorem ht_below {α : Type} [Inhabited α] {enc : α → Value} {w W : World} {g n : Nat} {d : Array α} {os : Array Obj} (hb : Below w.heap.size w W) (hg : w.heap.size ≤ g) : Below w.heap.size w (sortWorld enc W g 0 n d os) := by
  refine ⟨hb.os, hb.tape, hb.output, ?_, fun k hk => ?_⟩
  · unfold sortWorld grow putRow mapBlock Sort.ahead
    dsimp only
    have := hb.size
    rw [Array.size_append, Array.size_modify]
    omega
  · rw [← hb.block k hk]
    unfold sortWorld grow putRow mapBlock Sort.ahead
    dsimp only
    have := hb.size
    rw [Array.getElem?_append_left (by rw [Array.size_modify]; omega), Array.getElem?_modify, if_neg (by omega)]
open Go.Sort in
/-- What another block holds, it holds in every world of the sort. -/
theorem ht_cell {α : Type} [Inhabited α] {enc : α → Value} {W : World} {g n : Nat} {d : Array α} {os : Array Obj} {a : Addr} {v : Value} (h : W.cell? a = some v) (hne : a.block ≠ g) : (sortWorld enc W g 0 n d os).cell? a = some v := by
  have hlt := World.block_lt_of_cell? W _ h
  rw [← h]
  refine World.cell?_of_block (w := W) ?_
  unfold sortWorld grow putRow mapBlock Sort.ahead
  dsimp only
  rw [Array.getElem?_append_left (by rw [Array.size_modify]; exact hlt), Array.getElem?_modify, if_neg (Ne.symm hne)]
open Go.Sort in
/-- The sort of a row of one's own that holds the words that were done. -/
theorem ht_sorted {w W : World} {b0 : Nat} {A0 : Option Addr} {c0 : Nat} {l0 : List Int} {v : Value} (hA : Kd.C (Kd.int .i64) w A0 l0.length l0) (hB : Below w.heap.size w W) (h0 : W.cell? ⟨b0, 0, none⟩ = some (.slice A0 l0.length c0)) (hb0 : b0 = w.heap.size) (hR : Kd.R (Kd.int .i64) 3 W (w.heap.size + 1) (fun _ => True) v (C.ht_pos (rd l0) l0.length)) (hl : l0.length ≤ 1000000) :
    Calls Try.prog 16 #[v, .func (.func 17) #[] #[.pointer (some ⟨b0, 0, none⟩)]] W fun e w' => e = .returned (.tuple #[]) ∧ Kd.R (Kd.int .i64) 3 w' w.heap.size (fun _ => True) v (C.ht_all (rd l0) l0.length) ∧ Below w.heap.size w w' := by
  by_cases hn : 0 < (C.ht_pos (rd l0) l0.length).length
  · obtain ⟨g, cap, cur, rfl, hg, hh, hnc, hcm, hcs, _, ht⟩ := ht_own hR hn
    have hlp := C.ht_pos_le (rd l0) l0.length
    have hL : 0 < l0.length := by omega
    haveI : Inhabited (Fin l0.length) := ⟨⟨0, hL⟩⟩
    obtain ⟨dl, hd1, hd2, _⟩ := C.ht_fin (rd l0) l0.length l0.length (Nat.le_refl _)
    obtain ⟨d0, hd0⟩ : ∃ d0 : Array (Fin l0.length), d0.toList = dl := ⟨dl.toArray, by simp⟩
    rw [← hd0] at hd1 hd2
    have hsz : d0.size = (C.ht_pos (rd l0) l0.length).length := by rw [← hd1, List.length_map]; exact Array.length_toList.symm
    obtain ⟨N, hN⟩ : ∃ N, (C.ht_pos (rd l0) l0.length).length = N := ⟨_, rfl⟩
    rw [hN] at hsz hnc ht hn ⊢
    obtain ⟨enc, henc⟩ : ∃ enc : Fin l0.length → Value, enc = fun x => Value.int .i64 (x.val : Int) := ⟨_, rfl⟩
    have hH : Holds enc W g 0 d0 := fun j hj => by
      rw [blk_cell hh, blk_frozen hh]
      refine ⟨?_, rfl⟩
      have h1 : (cur.toList.take N)[j]? = some (enc d0[j]!) := by
        rw [ht, ← hd1, List.map_map, List.getElem?_map, Array.getElem?_toList, Array.getElem?_eq_getElem hj, getElem!_pos d0 j hj, henc]
        rfl
      rw [List.getElem?_take, if_pos (by omega), Array.getElem?_toList] at h1
      rw [Nat.zero_add]
      exact h1
    obtain ⟨ad, hAd⟩ : ∃ ad, A0 = some ad := by
      obtain ⟨ad, e, _⟩ := Kd.at_int hA 0 (by omega) (by omega)
      exact ⟨ad, e⟩
    subst hAd
    have hgW : g < W.heap.size := blk_lt hh
    have hcell : ∀ x : Fin l0.length, W.cell? (ad.add x.val) = some (.int .i64 (rd l0 (x.val : Int))) ∧ (ad.add x.val).block < w.heap.size := fun x => by
      obtain ⟨ad', e, hx⟩ := Kd.at_int hA (x.val : Int) (by omega) (by have := x.isLt; omega)
      cases e
      rw [Int.toNat_natCast] at hx
      have hb := World.block_lt_of_cell? w _ hx
      exact ⟨(hB.cell hb).trans hx, hb⟩
    have hcmp : CmpLays1 Try.prog 17 #[.pointer (some ⟨b0, 0, none⟩)] enc (C.ht_cf (rd l0)) g 0 N W := fun m os dk hdk x y => by
      have hx := hcell x
      have hy := hcell y
      have hc := ht_closure b0 ad l0.length c0 x.val y.val (rd l0 (x.val : Int)) (rd l0 (y.val : Int)) (sortWorld enc W g 0 m dk os) x.isLt y.isLt (by omega) (ht_cell h0 (by show b0 ≠ g; omega)) (ht_cell hx.1 (by have := hx.2; omega)) (ht_cell hy.1 (by have := hy.2; omega))
      rw [henc]
      rw [henc] at hc
      exact hc.mono fun e w' h => ⟨h.1, h.2.elim fun q hq => ⟨q, #[], by rw [hq, grow_empty]⟩⟩
    have hs := st_top_calls enc g 0 cap N d0 W ⟨by rw [henc]; exact fun _ => rfl, hH, hgW⟩ hsz (by omega) (C.ht_cf (rd l0)) (C.ht_lt (rd l0)) C.ht_q (C.ht_swo (rd l0) l0.length) (C.ht_test (rd l0) l0.length) 17 #[.pointer (some ⟨b0, 0, none⟩)] (enters_of Try.func17 (by kernel_rfl) rfl) hcmp (C.ht_up hsz hd2)
    refine hs.mono ?_
    rintro e w' ⟨rfl, d', hd', ⟨n, os, rfl⟩, hP, hS⟩
    have hend := C.ht_end hd1 hsz hP hS
    have hlen : (C.ht_all (rd l0) l0.length).length = N := by rw [C.ht_all_len, hN]
    refine ⟨rfl, ?_, ht_below hB (by omega)⟩
    have := ht_made (ok := fun _ => True) (base := w.heap.size) (xs := C.ht_all (rd l0) l0.length) (cap := cap) trivial (by omega) (ht_block (enc := enc) (d := d') (n := n) (os := os) hh) (by omega) hcm (by unfold putCells; rw [Array.size_mapIdx]; exact hcs) (by rw [hlen, ← hd', ht_putcells (by omega), ← hend, List.map_map, henc]; rfl)
    rw [hlen] at this
    exact this
  · have e0 : C.ht_pos (rd l0) l0.length = [] := List.eq_nil_of_length_eq_zero (by omega)
    have e1 : C.ht_all (rd l0) l0.length = [] := List.eq_nil_of_length_eq_zero (by rw [C.ht_all_len, e0]; rfl)
    rw [e0] at hR
    rw [e1]
    obtain ⟨A, c, rfl⟩ := Kd.R_slice hR
    refine (ht_top_none A c _ W).mono ?_
    rintro e w' ⟨rfl, rfl⟩
    exact ⟨rfl, Kd.R_lower hR (by omega), hB⟩
/-- Hot: the words that were done, the most often first, at most so many. -/
def cover_Hot.f (l0 : List Int) (a1 : Int) : Option (List Int) := if l0.length ≤ 1000000 then some ((C.ht_all (rd l0) l0.length).take (max 0 (min a1 ((C.ht_all (rd l0) l0.length).length : Int))).toNat) else none
set_option maxHeartbeats 4000000 in
set_option maxRecDepth 100000 in
theorem cover_Hot.calls (A0 : Option Addr) (c0 : Nat) (l0 : List Int) (a1 : Int) (r : List Int) (w : World) (hr0 : Kd.C (Kd.int .i64) w A0 l0.length l0) (hc0 : l0.length ≤ c0) (h : cover_Hot.f l0 a1 = some r) :
    Calls Try.prog 10 #[.slice A0 l0.length c0, .int .i64 a1] w fun e w' => ∃ v0_ : Value, e = .returned (v0_) ∧ Kd.R (Kd.int .i64) 3 w' w.heap.size (fun _ => True) v0_ r ∧ Below w.heap.size w w' := by
  unfold cover_Hot.f at h
  by_cases hl : l0.length ≤ 1000000
  · rw [if_pos hl] at h
    have hres := Option.some.inj h
    have HRES := Aside0.mk hres
    have HL := Aside0.mk hl
    have HR := Aside0.mk hr0
    have HC := Aside0.mk hc0
    clear h hres hr0 hc0
    have hlz : (l0.length : Int) ≤ 1000000 := by omega
    clear hl
    go_enter Try.func10, Try.ntmps10
    go_wp2_with (first | ((with_reducible refine gate_dst (N := 2) rfl ?_); refine box_event ?hg (N := 2) ?hd (cs := #[.slice A0 l0.length c0]) (t := 31) ?hr ?_; (case hd => rfl); (case hg => rfl); (case hr => first | (go_simp; done) | (go_simp; rfl)); intro b2 hgx w2 hbox hb; have HG2 := Aside0.mk hgx; have HX2 := Aside0.mk (blk_cell hbox 0); have HS2 := Aside0.mk (Nat.lt_of_lt_of_eq (blk_lt hbox) rfl); have HB2 := Aside0.mk hb; have cb := blk_cell hbox 0; clear hgx hbox hb))
    go_loopg [5, 10] (l0.length + 1) (fun kx s5 s10 wr => ∃ k : Nat, s10 = .int .i64 k ∧ Aside0 (k + kx = l0.length + 1 ∧ k ≤ l0.length) ∧ Aside0 (Kd.R (Kd.int .i64) 3 wr (w.heap.size + 1) (fun _ => True) s5 (C.ht_pos (rd l0) k)) ∧ Aside0 (Below w.heap.size w wr) ∧ Aside0 (Below (w.heap.size + 1) w2 wr))
    case atStart => exact ⟨0, rfl, ⟨by omega, by omega⟩, ⟨Kd.R_nil _ _ _ _ _⟩, HB2, ⟨Below.refl _ _⟩⟩
    case round =>
      obtain ⟨k, rfl, HK, HO, HBW, HBB⟩ := hrel
      by_cases hk : k < l0.length
      · obtain ⟨ad, e, cx⟩ := Kd.at_int HR.out (k : Int) (by omega) (by omega)
        cases e
        rw [Int.toNat_natCast] at cx
        replace cx := pw_cell_below HBW.out cx
        have k0 : (0 : Int) ≤ (k : Int) := by omega
        have k1 : (k : Int) < (l0.length : Int) := by omega
        have hpos : C.ht_pos (rd l0) (k + 1) = if 0 < rd l0 (k : Int) then C.ht_pos (rd l0) k ++ [(k : Int)] else C.ht_pos (rd l0) k := rfl
        have HH := Aside0.mk hk
        have HSZ : Aside0 (w.heap.size + 1 ≤ wr.heap.size) := ⟨by have h1 := HS2.out; have h2 := HBB.out.size; have h3 := HG2.out; omega⟩
        clear hk
        by_cases hp : 0 < rd l0 (k : Int)
        · rw [if_pos hp] at hpos
          have HP := Aside0.mk hpos
          clear hpos
          generalize rd l0 (k : Int) = y at cx hp
          go_wp2_with (first | ((with_reducible refine gate_builtin (b := .append) (xs := #[.tmp 17, .tmp 19]) rfl ?_); at_builtin; refine Kd.R_append (Kd.int .i64) (w0 := w2) (w.heap.size + 1) rfl (.tmp 17) (.tmp 19) 31 3 (.int .i64 0) 8 rfl Try.underlying31 info3 rfl (by decide) (by omega) u5 (C.ht_pos (rd l0) k) (k : Int) [.int .i64 (k : Int)] (fun _ => True) (fun _ => False) rfl rfl ?aP (fun _ hk => hk.elim) ?aF ?aO ?aB ?aS ?aL ?_; (case aP => exact rfl); (case aB => exact HBB.out); (case aF => exact (fun _ _ => trivial)); (case aO => exact HO.out); (case aS => exact HSZ.out); (case aL => have := HL.out; have := C.ht_pos_le (rd l0) k; have := HK.out; omega); intro v168 w5 ho hb hg hat; have HO2 := Aside0.mk ho; have HB3 := Aside0.mk hb; have HW3 : Aside0 (Below w.heap.size w w5) := ⟨HB2.out.trans (Below.mono hb (by omega))⟩; clear ho hb hg hat))
          go_roundg (l0.length - k)
          case measure => have := HK.out; have := HH.out; omega
          case rel => exact ⟨k + 1, by first | rfl | go_num, ⟨by have := HK.out; have := HH.out; omega, by have := HH.out; omega⟩, ⟨by rw [HP.out]; exact HO2.out⟩, HW3, HB3⟩
        · rw [if_neg hp] at hpos
          have HP := Aside0.mk hpos
          clear hpos
          generalize rd l0 (k : Int) = y at cx hp
          go_wp2
          go_roundg (l0.length - k)
          case measure => have := HK.out; have := HH.out; omega
          case rel => exact ⟨k + 1, by first | rfl | go_num, ⟨by have := HK.out; have := HH.out; omega, by have := HH.out; omega⟩, ⟨by rw [HP.out]; exact HO.out⟩, HBW, HBB⟩
      · have k1 : ¬ (k : Int) < (l0.length : Int) := by omega
        have hke : k = l0.length := by have := HK.out; omega
        have HO3 : Aside0 (Kd.R (Kd.int .i64) 3 wr (w.heap.size + 1) (fun _ => True) u5 (C.ht_pos (rd l0) l0.length)) := ⟨by rw [← hke]; exact HO.out⟩
        have HC2 : Aside0 (wr.cell? ⟨b2, 0, none⟩ = some (.slice A0 l0.length c0)) := ⟨(HBB.out.cell (by show b2 < _; rw [HG2.out]; omega)).trans HX2.out⟩
        clear hk hke
        obtain ⟨A, c, hA⟩ := Kd.R_slice HO3.out
        have hs := ht_sorted HR.out HBW.out HC2.out HG2.out HO3.out HL.out
        have HSO := Aside0.mk hs
        clear hs HO
        obtain ⟨N, hN⟩ : ∃ N, (C.ht_pos (rd l0) l0.length).length = N := ⟨_, rfl⟩
        rw [hN] at hA
        have hN2 : (C.ht_all (rd l0) l0.length).length = N := by rw [C.ht_all_len, hN]
        obtain ⟨i0, hi0, _, hz0, _⟩ := info_parts info3
        subst hA
        have hNc : N ≤ c := by have := (Kd.R_reads' HO3.out).2.1; omega
        have HN2 := Aside0.mk hN2
        clear hz0 hN hN2
        by_cases c1 : (N : Int) < a1
        · by_cases c2 : 0 < N
          · have c2z : 0 < (N : Int) := by omega
            have hcut := cut_to (P := Try.prog) 31 3 .i64 Try.underlying31 hi0 A N c (N : Int) (by omega) (by omega) hNc
            have HM : Aside0 (max 0 (min a1 (N : Int)) = (N : Int) ∧ 0 ≤ ((N : Int) : Int) ∧ ((N : Int) : Int) ≤ (N : Int)) := ⟨by omega, by omega, by omega⟩
            clear hi0 hNc HO3
            go_wp2_with (go_at_call 16; refine (HSO.out).mono ?_; rintro e w3 ⟨rfl, hR3, hB3⟩; have HR3 := Aside0.mk hR3; have HB3 := Aside0.mk hB3; clear hR3 hB3)
            go_ret
            refine ⟨_, rfl, ?_, HB3.out⟩
            have := Kd.R_take (m := ((N : Int) : Int).toNat) HR3.out (by rw [HN2.out]; have := HM.out; omega)
            rw [← HRES.out, HN2.out, HM.out.1]
            exact this
          · have c2z : ¬ 0 < (N : Int) := by omega
            have hcut := cut_to (P := Try.prog) 31 3 .i64 Try.underlying31 hi0 A N c (0 : Int) (by omega) (by omega) hNc
            have HM : Aside0 (max 0 (min a1 (N : Int)) = (0 : Int) ∧ 0 ≤ ((0 : Int) : Int) ∧ ((0 : Int) : Int) ≤ (N : Int)) := ⟨by omega, by omega, by omega⟩
            clear hi0 hNc HO3
            go_wp2_with (go_at_call 16; refine (HSO.out).mono ?_; rintro e w3 ⟨rfl, hR3, hB3⟩; have HR3 := Aside0.mk hR3; have HB3 := Aside0.mk hB3; clear hR3 hB3)
            go_ret
            refine ⟨_, rfl, ?_, HB3.out⟩
            have := Kd.R_take (m := ((0 : Int) : Int).toNat) HR3.out (by rw [HN2.out]; have := HM.out; omega)
            rw [← HRES.out, HN2.out, HM.out.1]
            exact this
        · by_cases c2 : 0 < a1
          · have hcut := cut_to (P := Try.prog) 31 3 .i64 Try.underlying31 hi0 A N c a1 (by omega) (by omega) hNc
            have HM : Aside0 (max 0 (min a1 (N : Int)) = a1 ∧ 0 ≤ (a1 : Int) ∧ (a1 : Int) ≤ (N : Int)) := ⟨by omega, by omega, by omega⟩
            clear hi0 hNc HO3
            go_wp2_with (go_at_call 16; refine (HSO.out).mono ?_; rintro e w3 ⟨rfl, hR3, hB3⟩; have HR3 := Aside0.mk hR3; have HB3 := Aside0.mk hB3; clear hR3 hB3)
            go_ret
            refine ⟨_, rfl, ?_, HB3.out⟩
            have := Kd.R_take (m := (a1 : Int).toNat) HR3.out (by rw [HN2.out]; have := HM.out; omega)
            rw [← HRES.out, HN2.out, HM.out.1]
            exact this
          · have hcut := cut_to (P := Try.prog) 31 3 .i64 Try.underlying31 hi0 A N c (0 : Int) (by omega) (by omega) hNc
            have HM : Aside0 (max 0 (min a1 (N : Int)) = (0 : Int) ∧ 0 ≤ ((0 : Int) : Int) ∧ ((0 : Int) : Int) ≤ (N : Int)) := ⟨by omega, by omega, by omega⟩
            clear hi0 hNc HO3
            go_wp2_with (go_at_call 16; refine (HSO.out).mono ?_; rintro e w3 ⟨rfl, hR3, hB3⟩; have HR3 := Aside0.mk hR3; have HB3 := Aside0.mk hB3; clear hR3 hB3)
            go_ret
            refine ⟨_, rfl, ?_, HB3.out⟩
            have := Kd.R_take (m := ((0 : Int) : Int).toNat) HR3.out (by rw [HN2.out]; have := HM.out; omega)
            rw [← HRES.out, HN2.out, HM.out.1]
            exact this
  · rw [if_neg hl] at h
    exact absurd h (by simp)

end Go.Proofs.Ytbhccjoodlldbaa.P

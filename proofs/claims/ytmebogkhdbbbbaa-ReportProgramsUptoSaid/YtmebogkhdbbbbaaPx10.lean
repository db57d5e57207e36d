-- Written by a program of this session (wip/tools/hp.py) out of the translation.
import Derived.Test.YtmebogkhdbbbbaaPx0
import Derived.Test.YtmebogkhdbbbbaaPx2
import Derived.Test.YtmebogkhdbbbbaaPx4
import Derived.Test.YtmebogkhdbbbbaaPx5
import Derived.Test.YtmebogkhdbbbbaaPx6
import Derived.Test.YtmebogkhdbbbbaaPx7
import Derived.Test.YtmebogkhdbbbbaaPx8
import Derived.Test.YtmebogkhdbbbbaaPx9
namespace Go.Proofs.Ytmebogkhdbbbbaa.P
open Go.RowKit Go.Proofs.YtmebogkhdbbbbaaW.PrintWords Go.Proofs.YtmebogkhdbbbbaaW.PrintLast Go.Proofs.YtmebogkhdbbbbaaW.PrintMore
attribute [local go_sem] max2_int min2_int max_two min_two max_three min_three max_four min_four   -- for this text's walks alone
set_option linter.unusedVariables false
set_option linter.unusedSimpArgs false

/-! ### report_Fault: function 7 -/
def PlIs (w0 W : World) (g : Nat) (f0 : ByteArray) (f1 : List Int) : Prop := place_Is W g f0 f1 ∧ w0.heap.size ≤ g
theorem PlIs.below {w0 W W1 : World} {g : Nat} {f0 : ByteArray} {f1 : List Int} (h : PlIs w0 W g f0 f1) (hb : Below W.heap.size W W1) : PlIs w0 W1 g f0 f1 := ⟨h.1.below hb, h.2⟩
theorem PlIs.alloc {w0 W : World} {g : Nat} {f0 : ByteArray} {f1 : List Int} (h : PlIs w0 W g f0 f1) (o : Obj) : PlIs w0 (W.alloc o) g f0 f1 := h.below (below_alloc (Below.refl _ _) o)
theorem PlIs.drewN {w0 W : World} {g : Nat} {f0 : ByteArray} {f1 : List Int} (h : PlIs w0 W g f0 f1) (m : Nat) : PlIs w0 (W.drewN m) g f0 f1 := h
theorem PlIs.drew {w0 W : World} {g : Nat} {f0 : ByteArray} {f1 : List Int} (h : PlIs w0 W g f0 f1) : PlIs w0 W.drew g f0 f1 := h
theorem PlIs.ge {w0 W : World} {g : Nat} {f0 : ByteArray} {f1 : List Int} (h : PlIs w0 W g f0 f1) : w0.heap.size ≤ g := h.2
theorem PlIs.ne_blk {w0 W : World} {g : Nat} {f0 : ByteArray} {f1 : List Int} {a : Nat} {cs : Array Value} {t : TypeId} {fr : Nat × Nat} (h : PlIs w0 W g f0 f1) (hb2 : W.heap[a]? = some (.cells cs t fr)) (ht : t ≠ 94) : g ≠ a := by
  obtain ⟨⟨A, c, hg, _⟩, _⟩ := h
  rintro rfl
  rw [hg] at hb2
  injection hb2 with hb2
  injection hb2 with _ hb2 _
  exact ht hb2.symm
def pl_New.f (s : ByteArray) : Option (ByteArray × List Int) := if s.size ≤ 2000 then some (s, place_sts s s.size) else none
def pl_At.f (s : ByteArray) (L : List Int) (off : Int) : Option (Int × Int × ByteArray) := if s.size ≤ 2000 ∧ L = place_sts s s.size then some (((place_line s L off : Nat) : Int) + 1, place_held s off - rd L (place_line s L off : Nat) + 1, s) else none
def pl_Mark.f (s : ByteArray) (L : List Int) (off : Int) : Option (ByteArray × ByteArray) := if s.size ≤ 2000 ∧ L = place_sts s s.size then some (place_marked (place_linef s L ((place_line s L off : Nat) + 1)) (place_held s off - rd L (place_line s L off : Nat)).toNat, s) else none
theorem pl_New.calls (s f0 : ByteArray) (f1 : List Int) (w0 W : World) (hB : Below w0.heap.size w0 W) (h : pl_New.f s = some (f0, f1)) : Calls Try.prog 19 #[.string s] W fun e w' => ∃ g, e = .returned (.pointer (some ⟨g, 0, none⟩)) ∧ PlIs w0 w' g f0 f1 ∧ Below w0.heap.size w0 w' ∧ Below W.heap.size W w' := by
  unfold pl_New.f at h
  by_cases hs : s.size ≤ 2000
  · rw [if_pos hs] at h
    injection h with h; injection h with h1 h2; subst h1; subst h2
    refine (place_New.whole s W (by omega)).mono ?_
    rintro e w' ⟨g, h1, h2, h3, h4⟩
    exact ⟨g, h1, ⟨h2, by have := hB.size; omega⟩, below_step hB h3, h3⟩
  · rw [if_neg hs] at h; exact absurd h (by simp)
theorem pl_At.calls (g : Nat) (f0 : ByteArray) (f1 : List Int) (off r1 r2 : Int) (f2 : ByteArray) (w0 W : World) (hI : PlIs w0 W g f0 f1) (hB : Below w0.heap.size w0 W) (h : pl_At.f f0 f1 off = some (r1, r2, f2)) : Calls Try.prog 20 #[.pointer (some ⟨g, 0, none⟩), .int .i64 off] W fun e w' => e = .returned (.tuple #[.int .i64 r1, .int .i64 r2]) ∧ PlIs w0 w' g f2 f1 ∧ Below w0.heap.size w0 w' ∧ KeepBut W w' g none := by
  unfold pl_At.f at h
  by_cases hs : f0.size ≤ 2000 ∧ f1 = place_sts f0 f0.size
  · rw [if_pos hs] at h
    injection h with h; injection h with h1 h2; injection h2 with h2 h3; subst h1; subst h2; subst h3
    refine (place_At.calls g f0 f1 off W hI.1 (by rw [hs.2]; exact place_good f0 (by omega)) (by rw [hs.2]; exact place_sts_zero f0 f0.size)).mono ?_
    rintro e w' ⟨rfl, hb⟩
    exact ⟨rfl, hI.below hb, below_step hB hb, hb.size, fun i hi _ _ => hb.block i hi⟩
  · rw [if_neg hs] at h; exact absurd h (by simp)
theorem pl_Mark.calls (g : Nat) (f0 : ByteArray) (f1 : List Int) (off : Int) (r f2 : ByteArray) (w0 W : World) (hI : PlIs w0 W g f0 f1) (hB : Below w0.heap.size w0 W) (h : pl_Mark.f f0 f1 off = some (r, f2)) : Calls Try.prog 21 #[.pointer (some ⟨g, 0, none⟩), .int .i64 off] W fun e w' => e = .returned (.string r) ∧ PlIs w0 w' g f2 f1 ∧ Below w0.heap.size w0 w' ∧ KeepBut W w' g none := by
  unfold pl_Mark.f at h
  by_cases hs : f0.size ≤ 2000 ∧ f1 = place_sts f0 f0.size
  · rw [if_pos hs] at h
    injection h with h; injection h with h1 h2; subst h1; subst h2
    refine (place_Mark.calls g f0 f1 off W hI.1 (by rw [hs.2]; exact place_good f0 (by omega)) (by rw [hs.2]; exact place_sts_zero f0 f0.size) hs.1).mono ?_
    rintro e w' ⟨rfl, hb⟩
    exact ⟨rfl, hI.below hb, below_step hB hb, hb.size, fun i hi _ _ => hb.block i hi⟩
  · rw [if_neg hs] at h; exact absurd h (by simp)
def report_Fault.j0 : Nat → List ByteArray → ByteArray → Bool → Int → Int → Int → Option (ByteArray)
  | 0, _, _, _, _, _, _ => none
  | k + 1, x0, x5, x30, x106000, x106001, x106002 => if x30 = true then (if x5.size + 2 ≤ 9223372036854775807 then ((report_Message.f k x106002).bind fun t108 => (if (x5 ++ (⟨#[58, 32]⟩ : ByteArray)).size + t108.size ≤ 9223372036854775807 then (if ((x5 ++ (⟨#[58, 32]⟩ : ByteArray)) ++ t108).size + 1 ≤ 9223372036854775807 then (some (((x5 ++ (⟨#[58, 32]⟩ : ByteArray)) ++ t108) ++ (⟨#[10]⟩ : ByteArray))) else (none)) else (none))) else (none)) else (if 0 ≤ x106000 then (if x106000 < (x0.length : Int) then ((pl_New.f (rdOf ByteArray.empty x0 x106000)).bind fun bt110 => ((pl_At.f bt110.1 bt110.2 x106001).bind fun bt113 => (if x5.size + 7 ≤ 9223372036854775807 then ((word_Text.f bt113.1).bind fun t116 => (if (x5 ++ (⟨#[44, 32, 108, 105, 110, 101, 32]⟩ : ByteArray)).size + t116.size ≤ 9223372036854775807 then (if ((x5 ++ (⟨#[44, 32, 108, 105, 110, 101, 32]⟩ : ByteArray)) ++ t116).size + 9 ≤ 9223372036854775807 then ((word_Text.f bt113.2.1).bind fun t117 => (if (((x5 ++ (⟨#[44, 32, 108, 105, 110, 101, 32]⟩ : ByteArray)) ++ t116) ++ (⟨#[44, 32, 99, 111, 108, 117, 109, 110, 32]⟩ : ByteArray)).size + t117.size ≤ 9223372036854775807 then (if ((((x5 ++ (⟨#[44, 32, 108, 105, 110, 101, 32]⟩ : ByteArray)) ++ t116) ++ (⟨#[44, 32, 99, 111, 108, 117, 109, 110, 32]⟩ : ByteArray)) ++ t117).size + 2 ≤ 9223372036854775807 then ((report_Message.f k x106002).bind fun t118 => (if (((((x5 ++ (⟨#[44, 32, 108, 105, 110, 101, 32]⟩ : ByteArray)) ++ t116) ++ (⟨#[44, 32, 99, 111, 108, 117, 109, 110, 32]⟩ : ByteArray)) ++ t117) ++ (⟨#[58, 32]⟩ : ByteArray)).size + t118.size ≤ 9223372036854775807 then (if ((((((x5 ++ (⟨#[44, 32, 108, 105, 110, 101, 32]⟩ : ByteArray)) ++ t116) ++ (⟨#[44, 32, 99, 111, 108, 117, 109, 110, 32]⟩ : ByteArray)) ++ t117) ++ (⟨#[58, 32]⟩ : ByteArray)) ++ t118).size + 1 ≤ 9223372036854775807 then ((pl_Mark.f bt113.2.2 bt110.2 x106001).bind fun bt119 => (if (((((((x5 ++ (⟨#[44, 32, 108, 105, 110, 101, 32]⟩ : ByteArray)) ++ t116) ++ (⟨#[44, 32, 99, 111, 108, 117, 109, 110, 32]⟩ : ByteArray)) ++ t117) ++ (⟨#[58, 32]⟩ : ByteArray)) ++ t118) ++ (⟨#[10]⟩ : ByteArray)).size + bt119.1.size ≤ 9223372036854775807 then (if ((((((((x5 ++ (⟨#[44, 32, 108, 105, 110, 101, 32]⟩ : ByteArray)) ++ t116) ++ (⟨#[44, 32, 99, 111, 108, 117, 109, 110, 32]⟩ : ByteArray)) ++ t117) ++ (⟨#[58, 32]⟩ : ByteArray)) ++ t118) ++ (⟨#[10]⟩ : ByteArray)) ++ bt119.1).size + 1 ≤ 9223372036854775807 then (some (((((((((x5 ++ (⟨#[44, 32, 108, 105, 110, 101, 32]⟩ : ByteArray)) ++ t116) ++ (⟨#[44, 32, 99, 111, 108, 117, 109, 110, 32]⟩ : ByteArray)) ++ t117) ++ (⟨#[58, 32]⟩ : ByteArray)) ++ t118) ++ (⟨#[10]⟩ : ByteArray)) ++ bt119.1) ++ (⟨#[10]⟩ : ByteArray))) else (none)) else (none))) else (none)) else (none))) else (none)) else (none))) else (none)) else (none))) else (none)))) else (none)) else (none))
def report_Fault.f (k : Nat) (l0 : List ByteArray) (a1_0 : Int) (a1_1 : Int) (a1_2 : Int) : Option (ByteArray) := if a1_2 = 0 then ((report_Message.f k a1_2).bind fun t106 => (if t106.size + 1 ≤ 9223372036854775807 then (some (t106 ++ (⟨#[10]⟩ : ByteArray))) else (none))) else ((word_Text.f (wrap64 (a1_0 + 1))).bind fun t107 => (if 5 + t107.size ≤ 9223372036854775807 then (if a1_0 < 0 then (report_Fault.j0 k l0 ((⟨#[116, 101, 120, 116, 32]⟩ : ByteArray) ++ t107) true a1_0 a1_1 a1_2) else (report_Fault.j0 k l0 ((⟨#[116, 101, 120, 116, 32]⟩ : ByteArray) ++ t107) (decide (a1_0 ≥ (l0.length : Int))) a1_0 a1_1 a1_2)) else (none)))
theorem report_Fault.mono_l : ∀ k, (∀ y0 y1 y2 y3 y4 y5, LeO (report_Fault.j0 k y0 y1 y2 y3 y4 y5) (report_Fault.j0 (k + 1) y0 y1 y2 y3 y4 y5))
  | 0 => fun _ _ _ _ _ _ r h => by simp [report_Fault.j0] at h
  | k + 1 => by
    have ih0 := report_Fault.mono_l k
    · intro y0 y1 y2 y3 y4 y5
      unfold report_Fault.j0
      repeat' first
      | (with_reducible exact ih0 _ _ _ _ _ _)
      | (with_reducible exact report_Message.mono _ _)
      | (with_reducible exact LeO.refl _)
      | (with_reducible exact LeO.none _)
      | (with_reducible refine LeO.ite ?_ ?_)
      | (with_reducible refine LeO.bind ?_ (fun _ => ?_))
      | exact ih0 _ _ _ _ _ _
      | exact report_Message.mono _ _
      | exact LeO.none _
      | refine LeO.ite ?_ ?_
      | refine LeO.bind ?_ (fun _ => ?_)
theorem report_Fault.mono : ∀ a0 a1 a2 a3 k, LeO (report_Fault.f k a0 a1 a2 a3) (report_Fault.f (k + 1) a0 a1 a2 a3) := by
  intro a0 a1 a2 a3 k
  have ih0 := report_Fault.mono_l k
  unfold report_Fault.f
  repeat' first
      | (with_reducible exact ih0 _ _ _ _ _ _)
      | (with_reducible exact report_Message.mono _ _)
      | (with_reducible exact LeO.refl _)
      | (with_reducible exact LeO.none _)
      | (with_reducible refine LeO.ite ?_ ?_)
      | (with_reducible refine LeO.bind ?_ (fun _ => ?_))
      | exact ih0 _ _ _ _ _ _
      | exact report_Message.mono _ _
      | exact LeO.none _
      | refine LeO.ite ?_ ?_
      | refine LeO.bind ?_ (fun _ => ?_)
def report_Fault.T8 : Bool × List (List Nat × List Nat) := (true, [([], []), ([0], [0]), ([], []), ([2], [2]), ([1, 3], [1, 3]), ([4], [4]), ([], []), ([6, 3], [6]), ([5, 7], [5, 7]), ([8], [8]), ([], []), ([10], [10]), ([11, 7], [11]), ([9, 12], [9, 12]), ([13], [13]), ([], []), ([], []), ([16], [16]), ([15, 17, 12], [15, 17]), ([14, 18], [14, 18]), ([19], [19]), ([20, 18, 0, 1, 2, 3, 4, 5, 6, 7, 8, 9, 10, 11, 12, 13, 14, 15, 16, 17, 18, 19, 20], [20])])
def report_Fault.B8 : List Nat := [0, 1, 0, 4, 15, 31, 0, 76, 255, 511, 0, 1024, 3276, 8191, 16383, 0, 0, 65536, 236748, 524287, 1048575, 2097151]
theorem report_Fault.tab8 : rtab .any (opsOf Try.f7 8) = report_Fault.T8 := by kernel_rfl
theorem report_Fault.bits8 : waitsOk report_Fault.T8.2 report_Fault.B8 = true := by kernel_rfl
set_option maxHeartbeats 8000000 in
set_option maxRecDepth 100000 in
theorem report_Fault.calls (k : Nat) (A0 : Option Addr) (c0 : Nat) (l0 : List ByteArray) (a1_0 : Int) (a1_1 : Int) (a1_2 : Int) (r : ByteArray) (w : World) (hr0 : Kd.C Kd.string w A0 l0.length l0) (hc0 : l0.length ≤ c0) (h : report_Fault.f k l0 a1_0 a1_1 a1_2 = some r) :
    Calls Try.prog 7 #[.slice A0 l0.length c0, .agg #[.int .i64 a1_0, .int .i64 a1_1, .int .i64 a1_2]] w fun e w' => e = .returned (.string r) ∧ Below w.heap.size w w' := by
  have hu25 := Try.underlying25
  have HR0 := Aside0.mk hr0
  have HC0 := Aside0.mk hc0
  clear hr0 hc0
  have HB := Aside0.mk (Below.refl w.heap.size w)
  have H : (if a1_2 = 0 then ((report_Message.f k a1_2).bind fun t106 => (if t106.size + 1 ≤ 9223372036854775807 then (some (t106 ++ (⟨#[10]⟩ : ByteArray))) else (none))) else ((word_Text.f (wrap64 (a1_0 + 1))).bind fun t107 => (if 5 + t107.size ≤ 9223372036854775807 then (if a1_0 < 0 then (report_Fault.j0 k l0 ((⟨#[116, 101, 120, 116, 32]⟩ : ByteArray) ++ t107) true a1_0 a1_1 a1_2) else (report_Fault.j0 k l0 ((⟨#[116, 101, 120, 116, 32]⟩ : ByteArray) ++ t107) (decide (a1_0 ≥ (l0.length : Int))) a1_0 a1_1 a1_2)) else (none)))) = some r := h
  clear h
  by_cases c3 : a1_2 = 0
  · rw [if_pos c3] at H
    have c3b0 : (a1_2 == 0) = true := beq_iff_eq.mpr c3
    have c3b1 : (a1_2 != 0) = false := bne_eq_false_iff_eq.mpr c3
    clear c3
    replace H := Option.bind_eq_some_iff.mp H
    obtain ⟨t106, A40, H⟩ := H
    replace H : (if t106.size + 1 ≤ 9223372036854775807 then (some (t106 ++ (⟨#[10]⟩ : ByteArray))) else (none)) = some r := H
    have A4 := Aside0.mk A40
    clear A40
    by_cases c5 : t106.size + 1 ≤ 9223372036854775807
    · rw [if_pos c5] at H
      have c5b0 := eq_true c5
      have c5b1 : decide (t106.size + 1 ≤ 9223372036854775807) = true := decide_eq_true c5
      try have c5b2 : (9223372036854775807 < t106.size + 1) = False := eq_false (Nat.not_lt.2 c5)
      try (have c5s2 := c5b2; simp only [ByteArray.size_append, Go.Proofs.Ytmebogkhdbbbbaa.C.ba_lit, List.size_toArray, List.length_cons, List.length_nil, Nat.zero_add, Nat.reduceAdd] at c5s2)
      obtain rfl := Option.some.inj H
      go_enter Try.func7, Try.ntmps7
      go_wp2_with (first | ((with_reducible refine gate_dst (N := 3) rfl ?_); (try (refine gate_guard (by rfl) ?_; dsimp only)); refine box_event ?hg (N := 3) ?hd (cs := #[.int .i64 a1_0, .int .i64 a1_1, .int .i64 a1_2]) (t := 25) ?hr ?_; (case hd => rfl); (case hg => rfl); (case hr => first | (go_simp; done) | (go_simp; rfl)); intro gb105 hg w6 hbox hb; have n0_ := Aside0.mk (below_step (by repeat (first | (with_reducible first | exact HB.out | apply below_alloc | apply pw_below_drewN | apply below_drew1) | exact HB.out)) hb); have n1_ := Aside0.mk (hbox); have n2_ := Aside0.mk ((by rw [hg]; exact (below_size (by repeat (first | (with_reducible first | exact HB.out | apply below_alloc | apply pw_below_drewN | apply below_drew1) | exact HB.out))) : w.heap.size ≤ gb105)); have n3_ := Aside0.mk ((by rw [hg]; exact (below_size (by repeat (first | (with_reducible first | exact HB.out | apply below_alloc | apply pw_below_drewN | apply below_drew1) | exact HB.out))) : w.heap.size ≤ gb105)); clear HB; have HB := n0_; have BK105 := n1_; have GW105 := n2_; have GE105 := n3_; clear n0_ n1_ n2_ n3_; clear hb hbox hg; have hcz7_0 : w6.cell? ⟨gb105, 0, none⟩ = some (.int .i64 a1_0) := (blk_cell BK105.out 0).trans rfl; have hcz7_1 : w6.cell? ⟨gb105, 1, none⟩ = some (.int .i64 a1_1) := (blk_cell BK105.out 1).trans rfl; have hcz7_2 : w6.cell? ⟨gb105, 2, none⟩ = some (.int .i64 a1_2) := (blk_cell BK105.out 2).trans rfl; have hfz7_0 := blk_frozen BK105.out 0; have hfz7_1 := blk_frozen BK105.out 1; have hfz7_2 := blk_frozen BK105.out 2) | ((with_reducible refine gate_callee (f := 9) rfl ?_); refine goesL_ (some 14) rfl rfl Try.func9 (by kernel_rfl) rfl #[.int .i64 a1_2] rfl (by (try simp only [List.map_toArray, List.map_cons, List.map_nil]); first | done | rfl | (simp only [List.length_drop, List.length_take]; rfl)) ?_; (with_reducible refine (report_Message.calls k a1_2 t106 _ A4.out).mono ?_); rintro e w8 ⟨rfl, hb⟩; refine ⟨_, rfl, ?_⟩; have n0_ := Aside0.mk (blk_below (g := gb105) (o := .cells #[.int .i64 a1_0, .int .i64 a1_1, .int .i64 a1_2] 25 (0, 0)) (by (with_reducible repeat (first | refine blk_drewN ?_ _ | refine blk_drew ?_ | refine blk_alloc ?_ _)); exact BK105.out) hb); have n1_ := Aside0.mk (below_step (by repeat (first | (with_reducible first | exact HB.out | apply below_alloc | apply pw_below_drewN | apply below_drew1 | refine below_set ?_ GE105.out) | exact HB.out)) hb); clear BK105; clear HB; have BK105 := n0_; have HB := n1_; clear n0_ n1_; (try clear hb); (try clear hb2); (try clear hk); (try clear hi)))
      go_ret
      exact ⟨by first | rfl | (simp [errW_none, errW_some] <;> rfl) | (simp [*, errW_none, errW_some] <;> rfl), by repeat (first | (with_reducible first | exact HB.out | apply below_alloc | apply pw_below_drewN | apply below_drew1 | refine below_set ?_ GE105.out) | exact HB.out)⟩
    · rw [if_neg c5] at H
      exact absurd H (by simp)
  · rw [if_neg c3] at H
    have c3b0 : (a1_2 == 0) = false := beq_eq_false_iff_ne.mpr c3
    have c3b1 : (a1_2 != 0) = true := bne_iff_ne.mpr c3
    replace H := Option.bind_eq_some_iff.mp H
    obtain ⟨t107, A90, H⟩ := H
    replace H : (if 5 + t107.size ≤ 9223372036854775807 then (if a1_0 < 0 then (report_Fault.j0 k l0 ((⟨#[116, 101, 120, 116, 32]⟩ : ByteArray) ++ t107) true a1_0 a1_1 a1_2) else (report_Fault.j0 k l0 ((⟨#[116, 101, 120, 116, 32]⟩ : ByteArray) ++ t107) (decide (a1_0 ≥ (l0.length : Int))) a1_0 a1_1 a1_2)) else (none)) = some r := H
    have A9 := Aside0.mk A90
    clear A90
    by_cases c10 : 5 + t107.size ≤ 9223372036854775807
    · rw [if_pos c10] at H
      have c10b0 := eq_true c10
      have c10b1 : decide (5 + t107.size ≤ 9223372036854775807) = true := decide_eq_true c10
      try have c10b2 : (9223372036854775807 < 5 + t107.size) = False := eq_false (Nat.not_lt.2 c10)
      try (have c10s2 := c10b2; simp only [ByteArray.size_append, Go.Proofs.Ytmebogkhdbbbbaa.C.ba_lit, List.size_toArray, List.length_cons, List.length_nil, Nat.zero_add, Nat.reduceAdd] at c10s2)
      have HC11 := Aside0.mk H
      clear H
      go_enter Try.func7, Try.ntmps7
      go_upto_region 4 with (first | ((with_reducible refine gate_dst (N := 3) rfl ?_); (try (refine gate_guard (by rfl) ?_; dsimp only)); refine box_event ?hg (N := 3) ?hd (cs := #[.int .i64 a1_0, .int .i64 a1_1, .int .i64 a1_2]) (t := 25) ?hr ?_; (case hd => rfl); (case hg => rfl); (case hr => first | (go_simp; done) | (go_simp; rfl)); intro gb105 hg w12 hbox hb; have n0_ := Aside0.mk (below_step (by repeat (first | (with_reducible first | exact HB.out | apply below_alloc | apply pw_below_drewN | apply below_drew1) | exact HB.out)) hb); have n1_ := Aside0.mk (hbox); have n2_ := Aside0.mk ((by rw [hg]; exact (below_size (by repeat (first | (with_reducible first | exact HB.out | apply below_alloc | apply pw_below_drewN | apply below_drew1) | exact HB.out))) : w.heap.size ≤ gb105)); have n3_ := Aside0.mk ((by rw [hg]; exact (below_size (by repeat (first | (with_reducible first | exact HB.out | apply below_alloc | apply pw_below_drewN | apply below_drew1) | exact HB.out))) : w.heap.size ≤ gb105)); clear HB; have HB := n0_; have BK105 := n1_; have GW105 := n2_; have GE105 := n3_; clear n0_ n1_ n2_ n3_; clear hb hbox hg; have hcz13_0 : w12.cell? ⟨gb105, 0, none⟩ = some (.int .i64 a1_0) := (blk_cell BK105.out 0).trans rfl; have hcz13_1 : w12.cell? ⟨gb105, 1, none⟩ = some (.int .i64 a1_1) := (blk_cell BK105.out 1).trans rfl; have hcz13_2 : w12.cell? ⟨gb105, 2, none⟩ = some (.int .i64 a1_2) := (blk_cell BK105.out 2).trans rfl; have hfz13_0 := blk_frozen BK105.out 0; have hfz13_1 := blk_frozen BK105.out 1; have hfz13_2 := blk_frozen BK105.out 2) | ((with_reducible refine gate_callee (f := 18) rfl ?_); refine goesL_ (some 19) rfl rfl Try.func18 (by kernel_rfl) rfl #[.int .i64 (wrap64 (a1_0 + 1))] rfl (by (try simp only [List.map_toArray, List.map_cons, List.map_nil]); first | done | rfl | (simp only [List.length_drop, List.length_take]; rfl)) ?_; (with_reducible refine (word_Text.calls (wrap64 (a1_0 + 1)) t107 _ A9.out).mono ?_); rintro e w14 ⟨rfl, hb⟩; refine ⟨_, rfl, ?_⟩; have n0_ := Aside0.mk (blk_below (g := gb105) (o := .cells #[.int .i64 a1_0, .int .i64 a1_1, .int .i64 a1_2] 25 (0, 0)) (by (with_reducible repeat (first | refine blk_drewN ?_ _ | refine blk_drew ?_ | refine blk_alloc ?_ _)); exact BK105.out) hb); have n1_ := Aside0.mk (below_step (by repeat (first | (with_reducible first | exact HB.out | apply below_alloc | apply pw_below_drewN | apply below_drew1 | refine below_set ?_ GE105.out) | exact HB.out)) hb); clear BK105; clear HB; have BK105 := n0_; have HB := n1_; clear n0_ n1_; (try clear hb); (try clear hb2); (try clear hk); (try clear hi)))
      (try simp only [Act.put, List.setIfInBounds_toArray, List.set_cons_zero, List.set_cons_succ])
      go_cut [30] (fun v30 wc => ∃ (kq : Nat) (x30_10 : Bool), v30 = .bool x30_10 ∧ Aside0 (report_Fault.j0 kq l0 ((⟨#[116, 101, 120, 116, 32]⟩ : ByteArray) ++ t107) x30_10 a1_0 a1_1 a1_2 = some r) ∧ Aside0 (kq ≤ k) ∧ Aside0 (wc.heap[gb105]? = some (.cells #[.int .i64 a1_0, .int .i64 a1_1, .int .i64 a1_2] 25 (0, 0))) ∧ Aside0 (Below w.heap.size w wc))
      case first =>
        have H := HC11.out
        clear HC11
        by_cases c15 : a1_0 < 0
        · rw [if_pos c15] at H
          have c15b0 : decide (a1_0 < 0) = true := decide_eq_true c15
          clear c15
          (first | rw [c15b0] | (simp only [i64_w, i32_w]; rw [c15b0]) | skip)
          have H' := Aside0.mk H
          clear H
          have hcz16_0 : w14.cell? ⟨gb105, 0, none⟩ = some (.int .i64 a1_0) := (blk_cell BK105.out 0).trans rfl
          have hcz16_1 : w14.cell? ⟨gb105, 1, none⟩ = some (.int .i64 a1_1) := (blk_cell BK105.out 1).trans rfl
          have hcz16_2 : w14.cell? ⟨gb105, 2, none⟩ = some (.int .i64 a1_2) := (blk_cell BK105.out 2).trans rfl
          have hfz16_0 := blk_frozen BK105.out 0
          have hfz16_1 := blk_frozen BK105.out 1
          have hfz16_2 := blk_frozen BK105.out 2
          go_wp2
          go_meet
          case rel => exact ⟨_, (true), (by first | rfl | (simp; done) | (simp [*]; done)), H', ⟨by first | omega | exact Nat.le_refl _⟩, ⟨by (with_reducible repeat (first | refine blk_drewN ?_ _ | refine blk_drew ?_ | refine blk_alloc ?_ _)); exact BK105.out⟩, ⟨by repeat (first | (with_reducible first | exact HB.out | apply below_alloc | apply pw_below_drewN | apply below_drew1 | refine below_set ?_ GE105.out) | exact HB.out)⟩⟩
        · rw [if_neg c15] at H
          have c15b0 : decide (a1_0 < 0) = false := decide_eq_false c15
          clear c15
          (first | rw [c15b0] | (simp only [i64_w, i32_w]; rw [c15b0]) | skip)
          have H' := Aside0.mk H
          clear H
          have hcz17_0 : w14.cell? ⟨gb105, 0, none⟩ = some (.int .i64 a1_0) := (blk_cell BK105.out 0).trans rfl
          have hcz17_1 : w14.cell? ⟨gb105, 1, none⟩ = some (.int .i64 a1_1) := (blk_cell BK105.out 1).trans rfl
          have hcz17_2 : w14.cell? ⟨gb105, 2, none⟩ = some (.int .i64 a1_2) := (blk_cell BK105.out 2).trans rfl
          have hfz17_0 := blk_frozen BK105.out 0
          have hfz17_1 := blk_frozen BK105.out 1
          have hfz17_2 := blk_frozen BK105.out 2
          go_wp2
          go_meet
          case rel => exact ⟨_, (decide (a1_0 ≥ (l0.length : Int))), (by first | rfl | (simp; done) | (simp [*]; done)), H', ⟨by first | omega | exact Nat.le_refl _⟩, ⟨by (with_reducible repeat (first | refine blk_drewN ?_ _ | refine blk_drew ?_ | refine blk_alloc ?_ _)); exact BK105.out⟩, ⟨by repeat (first | (with_reducible first | exact HB.out | apply below_alloc | apply pw_below_drewN | apply below_drew1 | refine below_set ?_ GE105.out) | exact HB.out)⟩⟩
      case rest =>
        clear HC11
        try clear c1
        try clear p2
        try clear c3
        try clear c3b0
        try clear c3b1
        try clear c5
        try clear c5b0
        try clear c5b1
        try clear c5b2
        try clear p6
        try clear c7
        try clear c9
        try clear c10
        try clear c10b0
        try clear c10b1
        try clear c10b2
        try clear c15
        try clear c15b0
        try clear hcz13_0
        try clear hcz13_1
        try clear hcz13_2
        try clear hcz16_0
        try clear hcz16_1
        try clear hcz16_2
        try clear hcz17_0
        try clear hcz17_1
        try clear hcz17_2
        try clear hcz7_0
        try clear hcz7_1
        try clear hcz7_2
        try clear hfz13_0
        try clear hfz13_1
        try clear hfz13_2
        try clear hfz16_0
        try clear hfz16_1
        try clear hfz16_2
        try clear hfz17_0
        try clear hfz17_1
        try clear hfz17_2
        try clear hfz7_0
        try clear hfz7_1
        try clear hfz7_2
        obtain ⟨kq, x30_10, rfl, HA, HJ10, BK105, HB⟩ := hcut
        cases kq with
        | zero => exact absurd HA.out (by simp [report_Fault.j0])
        | succ kj10 =>
          have H := HA.out
          clear HA
          simp only [report_Fault.j0] at H
          by_cases c18 : x30_10 = true
          · subst c18
            have H1 : (if ((⟨#[116, 101, 120, 116, 32]⟩ : ByteArray) ++ t107).size + 2 ≤ 9223372036854775807 then ((report_Message.f kj10 a1_2).bind fun t108 => (if (((⟨#[116, 101, 120, 116, 32]⟩ : ByteArray) ++ t107) ++ (⟨#[58, 32]⟩ : ByteArray)).size + t108.size ≤ 9223372036854775807 then (if ((((⟨#[116, 101, 120, 116, 32]⟩ : ByteArray) ++ t107) ++ (⟨#[58, 32]⟩ : ByteArray)) ++ t108).size + 1 ≤ 9223372036854775807 then (some (((((⟨#[116, 101, 120, 116, 32]⟩ : ByteArray) ++ t107) ++ (⟨#[58, 32]⟩ : ByteArray)) ++ t108) ++ (⟨#[10]⟩ : ByteArray))) else (none)) else (none))) else (none)) = some r := by rw [if_pos rfl] at H; exact H
            clear H
            have H := H1
            clear H1
            by_cases c19 : ((⟨#[116, 101, 120, 116, 32]⟩ : ByteArray) ++ t107).size + 2 ≤ 9223372036854775807
            · rw [if_pos c19] at H
              have c19b0 := eq_true c19
              have c19b1 : decide (((⟨#[116, 101, 120, 116, 32]⟩ : ByteArray) ++ t107).size + 2 ≤ 9223372036854775807) = true := decide_eq_true c19
              try have c19b2 : (9223372036854775807 < ((⟨#[116, 101, 120, 116, 32]⟩ : ByteArray) ++ t107).size + 2) = False := eq_false (Nat.not_lt.2 c19)
              try (have c19s2 := c19b2; simp only [ByteArray.size_append, Go.Proofs.Ytmebogkhdbbbbaa.C.ba_lit, List.size_toArray, List.length_cons, List.length_nil, Nat.zero_add, Nat.reduceAdd] at c19s2)
              replace H := Option.bind_eq_some_iff.mp H
              obtain ⟨t108, A200, H⟩ := H
              replace H : (if (((⟨#[116, 101, 120, 116, 32]⟩ : ByteArray) ++ t107) ++ (⟨#[58, 32]⟩ : ByteArray)).size + t108.size ≤ 9223372036854775807 then (if ((((⟨#[116, 101, 120, 116, 32]⟩ : ByteArray) ++ t107) ++ (⟨#[58, 32]⟩ : ByteArray)) ++ t108).size + 1 ≤ 9223372036854775807 then (some (((((⟨#[116, 101, 120, 116, 32]⟩ : ByteArray) ++ t107) ++ (⟨#[58, 32]⟩ : ByteArray)) ++ t108) ++ (⟨#[10]⟩ : ByteArray))) else (none)) else (none)) = some r := H
              have A20 := Aside0.mk A200
              clear A200
              by_cases c21 : (((⟨#[116, 101, 120, 116, 32]⟩ : ByteArray) ++ t107) ++ (⟨#[58, 32]⟩ : ByteArray)).size + t108.size ≤ 9223372036854775807
              · rw [if_pos c21] at H
                have c21b0 := eq_true c21
                have c21b1 : decide ((((⟨#[116, 101, 120, 116, 32]⟩ : ByteArray) ++ t107) ++ (⟨#[58, 32]⟩ : ByteArray)).size + t108.size ≤ 9223372036854775807) = true := decide_eq_true c21
                try have c21b2 : (9223372036854775807 < (((⟨#[116, 101, 120, 116, 32]⟩ : ByteArray) ++ t107) ++ (⟨#[58, 32]⟩ : ByteArray)).size + t108.size) = False := eq_false (Nat.not_lt.2 c21)
                try (have c21s2 := c21b2; simp only [ByteArray.size_append, Go.Proofs.Ytmebogkhdbbbbaa.C.ba_lit, List.size_toArray, List.length_cons, List.length_nil, Nat.zero_add, Nat.reduceAdd] at c21s2)
                by_cases c22 : ((((⟨#[116, 101, 120, 116, 32]⟩ : ByteArray) ++ t107) ++ (⟨#[58, 32]⟩ : ByteArray)) ++ t108).size + 1 ≤ 9223372036854775807
                · rw [if_pos c22] at H
                  have c22b0 := eq_true c22
                  have c22b1 : decide (((((⟨#[116, 101, 120, 116, 32]⟩ : ByteArray) ++ t107) ++ (⟨#[58, 32]⟩ : ByteArray)) ++ t108).size + 1 ≤ 9223372036854775807) = true := decide_eq_true c22
                  try have c22b2 : (9223372036854775807 < ((((⟨#[116, 101, 120, 116, 32]⟩ : ByteArray) ++ t107) ++ (⟨#[58, 32]⟩ : ByteArray)) ++ t108).size + 1) = False := eq_false (Nat.not_lt.2 c22)
                  try (have c22s2 := c22b2; simp only [ByteArray.size_append, Go.Proofs.Ytmebogkhdbbbbaa.C.ba_lit, List.size_toArray, List.length_cons, List.length_nil, Nat.zero_add, Nat.reduceAdd] at c22s2)
                  obtain rfl := Option.some.inj H
                  have hcz23_0 : wc.cell? ⟨gb105, 0, none⟩ = some (.int .i64 a1_0) := (blk_cell BK105.out 0).trans rfl
                  have hcz23_1 : wc.cell? ⟨gb105, 1, none⟩ = some (.int .i64 a1_1) := (blk_cell BK105.out 1).trans rfl
                  have hcz23_2 : wc.cell? ⟨gb105, 2, none⟩ = some (.int .i64 a1_2) := (blk_cell BK105.out 2).trans rfl
                  have hfz23_0 := blk_frozen BK105.out 0
                  have hfz23_1 := blk_frozen BK105.out 1
                  have hfz23_2 := blk_frozen BK105.out 2
                  go_wp2_with (first | ((with_reducible refine gate_callee (f := 9) rfl ?_); refine goesL_ (some 35) rfl rfl Try.func9 (by kernel_rfl) rfl #[.int .i64 a1_2] rfl (by (try simp only [List.map_toArray, List.map_cons, List.map_nil]); first | done | rfl | (simp only [List.length_drop, List.length_take]; rfl)) ?_; (with_reducible refine (report_Message.calls kj10 a1_2 t108 _ A20.out).mono ?_); rintro e w24 ⟨rfl, hb⟩; refine ⟨_, rfl, ?_⟩; have n0_ := Aside0.mk (blk_below (g := gb105) (o := .cells #[.int .i64 a1_0, .int .i64 a1_1, .int .i64 a1_2] 25 (0, 0)) (by (with_reducible repeat (first | refine blk_drewN ?_ _ | refine blk_drew ?_ | refine blk_alloc ?_ _)); exact BK105.out) hb); have n1_ := Aside0.mk (below_step (by repeat (first | (with_reducible first | exact HB.out | apply below_alloc | apply pw_below_drewN | apply below_drew1 | refine below_set ?_ GE105.out) | exact HB.out)) hb); clear BK105; clear HB; have BK105 := n0_; have HB := n1_; clear n0_ n1_; (try clear hb); (try clear hb2); (try clear hk); (try clear hi)))
                  go_ret
                  exact ⟨by first | rfl | (simp [errW_none, errW_some] <;> rfl) | (simp [*, errW_none, errW_some] <;> rfl), by repeat (first | (with_reducible first | exact HB.out | apply below_alloc | apply pw_below_drewN | apply below_drew1 | refine below_set ?_ GE105.out) | exact HB.out)⟩
                · rw [if_neg c22] at H
                  exact absurd H (by simp)
              · rw [if_neg c21] at H
                exact absurd H (by simp)
            · rw [if_neg c19] at H
              exact absurd H (by simp)
          · replace c18 := Bool.eq_false_iff.mpr c18
            subst c18
            have H1 : (if 0 ≤ a1_0 then (if a1_0 < (l0.length : Int) then ((pl_New.f (rdOf ByteArray.empty l0 a1_0)).bind fun bt110 => ((pl_At.f bt110.1 bt110.2 a1_1).bind fun bt113 => (if ((⟨#[116, 101, 120, 116, 32]⟩ : ByteArray) ++ t107).size + 7 ≤ 9223372036854775807 then ((word_Text.f bt113.1).bind fun t116 => (if (((⟨#[116, 101, 120, 116, 32]⟩ : ByteArray) ++ t107) ++ (⟨#[44, 32, 108, 105, 110, 101, 32]⟩ : ByteArray)).size + t116.size ≤ 9223372036854775807 then (if ((((⟨#[116, 101, 120, 116, 32]⟩ : ByteArray) ++ t107) ++ (⟨#[44, 32, 108, 105, 110, 101, 32]⟩ : ByteArray)) ++ t116).size + 9 ≤ 9223372036854775807 then ((word_Text.f bt113.2.1).bind fun t117 => (if (((((⟨#[116, 101, 120, 116, 32]⟩ : ByteArray) ++ t107) ++ (⟨#[44, 32, 108, 105, 110, 101, 32]⟩ : ByteArray)) ++ t116) ++ (⟨#[44, 32, 99, 111, 108, 117, 109, 110, 32]⟩ : ByteArray)).size + t117.size ≤ 9223372036854775807 then (if ((((((⟨#[116, 101, 120, 116, 32]⟩ : ByteArray) ++ t107) ++ (⟨#[44, 32, 108, 105, 110, 101, 32]⟩ : ByteArray)) ++ t116) ++ (⟨#[44, 32, 99, 111, 108, 117, 109, 110, 32]⟩ : ByteArray)) ++ t117).size + 2 ≤ 9223372036854775807 then ((report_Message.f kj10 a1_2).bind fun t118 => (if (((((((⟨#[116, 101, 120, 116, 32]⟩ : ByteArray) ++ t107) ++ (⟨#[44, 32, 108, 105, 110, 101, 32]⟩ : ByteArray)) ++ t116) ++ (⟨#[44, 32, 99, 111, 108, 117, 109, 110, 32]⟩ : ByteArray)) ++ t117) ++ (⟨#[58, 32]⟩ : ByteArray)).size + t118.size ≤ 9223372036854775807 then (if ((((((((⟨#[116, 101, 120, 116, 32]⟩ : ByteArray) ++ t107) ++ (⟨#[44, 32, 108, 105, 110, 101, 32]⟩ : ByteArray)) ++ t116) ++ (⟨#[44, 32, 99, 111, 108, 117, 109, 110, 32]⟩ : ByteArray)) ++ t117) ++ (⟨#[58, 32]⟩ : ByteArray)) ++ t118).size + 1 ≤ 9223372036854775807 then ((pl_Mark.f bt113.2.2 bt110.2 a1_1).bind fun bt119 => (if (((((((((⟨#[116, 101, 120, 116, 32]⟩ : ByteArray) ++ t107) ++ (⟨#[44, 32, 108, 105, 110, 101, 32]⟩ : ByteArray)) ++ t116) ++ (⟨#[44, 32, 99, 111, 108, 117, 109, 110, 32]⟩ : ByteArray)) ++ t117) ++ (⟨#[58, 32]⟩ : ByteArray)) ++ t118) ++ (⟨#[10]⟩ : ByteArray)).size + bt119.1.size ≤ 9223372036854775807 then (if ((((((((((⟨#[116, 101, 120, 116, 32]⟩ : ByteArray) ++ t107) ++ (⟨#[44, 32, 108, 105, 110, 101, 32]⟩ : ByteArray)) ++ t116) ++ (⟨#[44, 32, 99, 111, 108, 117, 109, 110, 32]⟩ : ByteArray)) ++ t117) ++ (⟨#[58, 32]⟩ : ByteArray)) ++ t118) ++ (⟨#[10]⟩ : ByteArray)) ++ bt119.1).size + 1 ≤ 9223372036854775807 then (some (((((((((((⟨#[116, 101, 120, 116, 32]⟩ : ByteArray) ++ t107) ++ (⟨#[44, 32, 108, 105, 110, 101, 32]⟩ : ByteArray)) ++ t116) ++ (⟨#[44, 32, 99, 111, 108, 117, 109, 110, 32]⟩ : ByteArray)) ++ t117) ++ (⟨#[58, 32]⟩ : ByteArray)) ++ t118) ++ (⟨#[10]⟩ : ByteArray)) ++ bt119.1) ++ (⟨#[10]⟩ : ByteArray))) else (none)) else (none))) else (none)) else (none))) else (none)) else (none))) else (none)) else (none))) else (none)))) else (none)) else (none)) = some r := by rw [if_neg (show ¬ (false = true) by decide)] at H; exact H
            clear H
            have H := H1
            clear H1
            by_cases c25 : 0 ≤ a1_0
            · rw [if_pos c25] at H
              have c25b0 : decide (0 ≤ a1_0) = true := decide_eq_true c25
              clear c25
              by_cases c26 : a1_0 < (l0.length : Int)
              · rw [if_pos c26] at H
                have c26b0 : decide (a1_0 < (l0.length : Int)) = true := decide_eq_true c26
                clear c26
                replace H := Option.bind_eq_some_iff.mp H
                obtain ⟨⟨t110, t111⟩, A270, H⟩ := H
                replace H : ((pl_At.f t110 t111 a1_1).bind fun bt113 => (if ((⟨#[116, 101, 120, 116, 32]⟩ : ByteArray) ++ t107).size + 7 ≤ 9223372036854775807 then ((word_Text.f bt113.1).bind fun t116 => (if (((⟨#[116, 101, 120, 116, 32]⟩ : ByteArray) ++ t107) ++ (⟨#[44, 32, 108, 105, 110, 101, 32]⟩ : ByteArray)).size + t116.size ≤ 9223372036854775807 then (if ((((⟨#[116, 101, 120, 116, 32]⟩ : ByteArray) ++ t107) ++ (⟨#[44, 32, 108, 105, 110, 101, 32]⟩ : ByteArray)) ++ t116).size + 9 ≤ 9223372036854775807 then ((word_Text.f bt113.2.1).bind fun t117 => (if (((((⟨#[116, 101, 120, 116, 32]⟩ : ByteArray) ++ t107) ++ (⟨#[44, 32, 108, 105, 110, 101, 32]⟩ : ByteArray)) ++ t116) ++ (⟨#[44, 32, 99, 111, 108, 117, 109, 110, 32]⟩ : ByteArray)).size + t117.size ≤ 9223372036854775807 then (if ((((((⟨#[116, 101, 120, 116, 32]⟩ : ByteArray) ++ t107) ++ (⟨#[44, 32, 108, 105, 110, 101, 32]⟩ : ByteArray)) ++ t116) ++ (⟨#[44, 32, 99, 111, 108, 117, 109, 110, 32]⟩ : ByteArray)) ++ t117).size + 2 ≤ 9223372036854775807 then ((report_Message.f kj10 a1_2).bind fun t118 => (if (((((((⟨#[116, 101, 120, 116, 32]⟩ : ByteArray) ++ t107) ++ (⟨#[44, 32, 108, 105, 110, 101, 32]⟩ : ByteArray)) ++ t116) ++ (⟨#[44, 32, 99, 111, 108, 117, 109, 110, 32]⟩ : ByteArray)) ++ t117) ++ (⟨#[58, 32]⟩ : ByteArray)).size + t118.size ≤ 9223372036854775807 then (if ((((((((⟨#[116, 101, 120, 116, 32]⟩ : ByteArray) ++ t107) ++ (⟨#[44, 32, 108, 105, 110, 101, 32]⟩ : ByteArray)) ++ t116) ++ (⟨#[44, 32, 99, 111, 108, 117, 109, 110, 32]⟩ : ByteArray)) ++ t117) ++ (⟨#[58, 32]⟩ : ByteArray)) ++ t118).size + 1 ≤ 9223372036854775807 then ((pl_Mark.f bt113.2.2 t111 a1_1).bind fun bt119 => (if (((((((((⟨#[116, 101, 120, 116, 32]⟩ : ByteArray) ++ t107) ++ (⟨#[44, 32, 108, 105, 110, 101, 32]⟩ : ByteArray)) ++ t116) ++ (⟨#[44, 32, 99, 111, 108, 117, 109, 110, 32]⟩ : ByteArray)) ++ t117) ++ (⟨#[58, 32]⟩ : ByteArray)) ++ t118) ++ (⟨#[10]⟩ : ByteArray)).size + bt119.1.size ≤ 9223372036854775807 then (if ((((((((((⟨#[116, 101, 120, 116, 32]⟩ : ByteArray) ++ t107) ++ (⟨#[44, 32, 108, 105, 110, 101, 32]⟩ : ByteArray)) ++ t116) ++ (⟨#[44, 32, 99, 111, 108, 117, 109, 110, 32]⟩ : ByteArray)) ++ t117) ++ (⟨#[58, 32]⟩ : ByteArray)) ++ t118) ++ (⟨#[10]⟩ : ByteArray)) ++ bt119.1).size + 1 ≤ 9223372036854775807 then (some (((((((((((⟨#[116, 101, 120, 116, 32]⟩ : ByteArray) ++ t107) ++ (⟨#[44, 32, 108, 105, 110, 101, 32]⟩ : ByteArray)) ++ t116) ++ (⟨#[44, 32, 99, 111, 108, 117, 109, 110, 32]⟩ : ByteArray)) ++ t117) ++ (⟨#[58, 32]⟩ : ByteArray)) ++ t118) ++ (⟨#[10]⟩ : ByteArray)) ++ bt119.1) ++ (⟨#[10]⟩ : ByteArray))) else (none)) else (none))) else (none)) else (none))) else (none)) else (none))) else (none)) else (none))) else (none))) = some r := H
                have A27 := Aside0.mk A270
                clear A270
                replace H := Option.bind_eq_some_iff.mp H
                obtain ⟨⟨t113, t114, t115⟩, A280, H⟩ := H
                replace H : (if ((⟨#[116, 101, 120, 116, 32]⟩ : ByteArray) ++ t107).size + 7 ≤ 9223372036854775807 then ((word_Text.f t113).bind fun t116 => (if (((⟨#[116, 101, 120, 116, 32]⟩ : ByteArray) ++ t107) ++ (⟨#[44, 32, 108, 105, 110, 101, 32]⟩ : ByteArray)).size + t116.size ≤ 9223372036854775807 then (if ((((⟨#[116, 101, 120, 116, 32]⟩ : ByteArray) ++ t107) ++ (⟨#[44, 32, 108, 105, 110, 101, 32]⟩ : ByteArray)) ++ t116).size + 9 ≤ 9223372036854775807 then ((word_Text.f t114).bind fun t117 => (if (((((⟨#[116, 101, 120, 116, 32]⟩ : ByteArray) ++ t107) ++ (⟨#[44, 32, 108, 105, 110, 101, 32]⟩ : ByteArray)) ++ t116) ++ (⟨#[44, 32, 99, 111, 108, 117, 109, 110, 32]⟩ : ByteArray)).size + t117.size ≤ 9223372036854775807 then (if ((((((⟨#[116, 101, 120, 116, 32]⟩ : ByteArray) ++ t107) ++ (⟨#[44, 32, 108, 105, 110, 101, 32]⟩ : ByteArray)) ++ t116) ++ (⟨#[44, 32, 99, 111, 108, 117, 109, 110, 32]⟩ : ByteArray)) ++ t117).size + 2 ≤ 9223372036854775807 then ((report_Message.f kj10 a1_2).bind fun t118 => (if (((((((⟨#[116, 101, 120, 116, 32]⟩ : ByteArray) ++ t107) ++ (⟨#[44, 32, 108, 105, 110, 101, 32]⟩ : ByteArray)) ++ t116) ++ (⟨#[44, 32, 99, 111, 108, 117, 109, 110, 32]⟩ : ByteArray)) ++ t117) ++ (⟨#[58, 32]⟩ : ByteArray)).size + t118.size ≤ 9223372036854775807 then (if ((((((((⟨#[116, 101, 120, 116, 32]⟩ : ByteArray) ++ t107) ++ (⟨#[44, 32, 108, 105, 110, 101, 32]⟩ : ByteArray)) ++ t116) ++ (⟨#[44, 32, 99, 111, 108, 117, 109, 110, 32]⟩ : ByteArray)) ++ t117) ++ (⟨#[58, 32]⟩ : ByteArray)) ++ t118).size + 1 ≤ 9223372036854775807 then ((pl_Mark.f t115 t111 a1_1).bind fun bt119 => (if (((((((((⟨#[116, 101, 120, 116, 32]⟩ : ByteArray) ++ t107) ++ (⟨#[44, 32, 108, 105, 110, 101, 32]⟩ : ByteArray)) ++ t116) ++ (⟨#[44, 32, 99, 111, 108, 117, 109, 110, 32]⟩ : ByteArray)) ++ t117) ++ (⟨#[58, 32]⟩ : ByteArray)) ++ t118) ++ (⟨#[10]⟩ : ByteArray)).size + bt119.1.size ≤ 9223372036854775807 then (if ((((((((((⟨#[116, 101, 120, 116, 32]⟩ : ByteArray) ++ t107) ++ (⟨#[44, 32, 108, 105, 110, 101, 32]⟩ : ByteArray)) ++ t116) ++ (⟨#[44, 32, 99, 111, 108, 117, 109, 110, 32]⟩ : ByteArray)) ++ t117) ++ (⟨#[58, 32]⟩ : ByteArray)) ++ t118) ++ (⟨#[10]⟩ : ByteArray)) ++ bt119.1).size + 1 ≤ 9223372036854775807 then (some (((((((((((⟨#[116, 101, 120, 116, 32]⟩ : ByteArray) ++ t107) ++ (⟨#[44, 32, 108, 105, 110, 101, 32]⟩ : ByteArray)) ++ t116) ++ (⟨#[44, 32, 99, 111, 108, 117, 109, 110, 32]⟩ : ByteArray)) ++ t117) ++ (⟨#[58, 32]⟩ : ByteArray)) ++ t118) ++ (⟨#[10]⟩ : ByteArray)) ++ bt119.1) ++ (⟨#[10]⟩ : ByteArray))) else (none)) else (none))) else (none)) else (none))) else (none)) else (none))) else (none)) else (none))) else (none)) = some r := H
                have A28 := Aside0.mk A280
                clear A280
                by_cases c29 : ((⟨#[116, 101, 120, 116, 32]⟩ : ByteArray) ++ t107).size + 7 ≤ 9223372036854775807
                · rw [if_pos c29] at H
                  have c29b0 := eq_true c29
                  have c29b1 : decide (((⟨#[116, 101, 120, 116, 32]⟩ : ByteArray) ++ t107).size + 7 ≤ 9223372036854775807) = true := decide_eq_true c29
                  try have c29b2 : (9223372036854775807 < ((⟨#[116, 101, 120, 116, 32]⟩ : ByteArray) ++ t107).size + 7) = False := eq_false (Nat.not_lt.2 c29)
                  try (have c29s2 := c29b2; simp only [ByteArray.size_append, Go.Proofs.Ytmebogkhdbbbbaa.C.ba_lit, List.size_toArray, List.length_cons, List.length_nil, Nat.zero_add, Nat.reduceAdd] at c29s2)
                  replace H := Option.bind_eq_some_iff.mp H
                  obtain ⟨t116, A300, H⟩ := H
                  replace H : (if (((⟨#[116, 101, 120, 116, 32]⟩ : ByteArray) ++ t107) ++ (⟨#[44, 32, 108, 105, 110, 101, 32]⟩ : ByteArray)).size + t116.size ≤ 9223372036854775807 then (if ((((⟨#[116, 101, 120, 116, 32]⟩ : ByteArray) ++ t107) ++ (⟨#[44, 32, 108, 105, 110, 101, 32]⟩ : ByteArray)) ++ t116).size + 9 ≤ 9223372036854775807 then ((word_Text.f t114).bind fun t117 => (if (((((⟨#[116, 101, 120, 116, 32]⟩ : ByteArray) ++ t107) ++ (⟨#[44, 32, 108, 105, 110, 101, 32]⟩ : ByteArray)) ++ t116) ++ (⟨#[44, 32, 99, 111, 108, 117, 109, 110, 32]⟩ : ByteArray)).size + t117.size ≤ 9223372036854775807 then (if ((((((⟨#[116, 101, 120, 116, 32]⟩ : ByteArray) ++ t107) ++ (⟨#[44, 32, 108, 105, 110, 101, 32]⟩ : ByteArray)) ++ t116) ++ (⟨#[44, 32, 99, 111, 108, 117, 109, 110, 32]⟩ : ByteArray)) ++ t117).size + 2 ≤ 9223372036854775807 then ((report_Message.f kj10 a1_2).bind fun t118 => (if (((((((⟨#[116, 101, 120, 116, 32]⟩ : ByteArray) ++ t107) ++ (⟨#[44, 32, 108, 105, 110, 101, 32]⟩ : ByteArray)) ++ t116) ++ (⟨#[44, 32, 99, 111, 108, 117, 109, 110, 32]⟩ : ByteArray)) ++ t117) ++ (⟨#[58, 32]⟩ : ByteArray)).size + t118.size ≤ 9223372036854775807 then (if ((((((((⟨#[116, 101, 120, 116, 32]⟩ : ByteArray) ++ t107) ++ (⟨#[44, 32, 108, 105, 110, 101, 32]⟩ : ByteArray)) ++ t116) ++ (⟨#[44, 32, 99, 111, 108, 117, 109, 110, 32]⟩ : ByteArray)) ++ t117) ++ (⟨#[58, 32]⟩ : ByteArray)) ++ t118).size + 1 ≤ 9223372036854775807 then ((pl_Mark.f t115 t111 a1_1).bind fun bt119 => (if (((((((((⟨#[116, 101, 120, 116, 32]⟩ : ByteArray) ++ t107) ++ (⟨#[44, 32, 108, 105, 110, 101, 32]⟩ : ByteArray)) ++ t116) ++ (⟨#[44, 32, 99, 111, 108, 117, 109, 110, 32]⟩ : ByteArray)) ++ t117) ++ (⟨#[58, 32]⟩ : ByteArray)) ++ t118) ++ (⟨#[10]⟩ : ByteArray)).size + bt119.1.size ≤ 9223372036854775807 then (if ((((((((((⟨#[116, 101, 120, 116, 32]⟩ : ByteArray) ++ t107) ++ (⟨#[44, 32, 108, 105, 110, 101, 32]⟩ : ByteArray)) ++ t116) ++ (⟨#[44, 32, 99, 111, 108, 117, 109, 110, 32]⟩ : ByteArray)) ++ t117) ++ (⟨#[58, 32]⟩ : ByteArray)) ++ t118) ++ (⟨#[10]⟩ : ByteArray)) ++ bt119.1).size + 1 ≤ 9223372036854775807 then (some (((((((((((⟨#[116, 101, 120, 116, 32]⟩ : ByteArray) ++ t107) ++ (⟨#[44, 32, 108, 105, 110, 101, 32]⟩ : ByteArray)) ++ t116) ++ (⟨#[44, 32, 99, 111, 108, 117, 109, 110, 32]⟩ : ByteArray)) ++ t117) ++ (⟨#[58, 32]⟩ : ByteArray)) ++ t118) ++ (⟨#[10]⟩ : ByteArray)) ++ bt119.1) ++ (⟨#[10]⟩ : ByteArray))) else (none)) else (none))) else (none)) else (none))) else (none)) else (none))) else (none)) else (none)) = some r := H
                  have A30 := Aside0.mk A300
                  clear A300
                  by_cases c31 : (((⟨#[116, 101, 120, 116, 32]⟩ : ByteArray) ++ t107) ++ (⟨#[44, 32, 108, 105, 110, 101, 32]⟩ : ByteArray)).size + t116.size ≤ 9223372036854775807
                  · rw [if_pos c31] at H
                    have c31b0 := eq_true c31
                    have c31b1 : decide ((((⟨#[116, 101, 120, 116, 32]⟩ : ByteArray) ++ t107) ++ (⟨#[44, 32, 108, 105, 110, 101, 32]⟩ : ByteArray)).size + t116.size ≤ 9223372036854775807) = true := decide_eq_true c31
                    try have c31b2 : (9223372036854775807 < (((⟨#[116, 101, 120, 116, 32]⟩ : ByteArray) ++ t107) ++ (⟨#[44, 32, 108, 105, 110, 101, 32]⟩ : ByteArray)).size + t116.size) = False := eq_false (Nat.not_lt.2 c31)
                    try (have c31s2 := c31b2; simp only [ByteArray.size_append, Go.Proofs.Ytmebogkhdbbbbaa.C.ba_lit, List.size_toArray, List.length_cons, List.length_nil, Nat.zero_add, Nat.reduceAdd] at c31s2)
                    by_cases c32 : ((((⟨#[116, 101, 120, 116, 32]⟩ : ByteArray) ++ t107) ++ (⟨#[44, 32, 108, 105, 110, 101, 32]⟩ : ByteArray)) ++ t116).size + 9 ≤ 9223372036854775807
                    · rw [if_pos c32] at H
                      have c32b0 := eq_true c32
                      have c32b1 : decide (((((⟨#[116, 101, 120, 116, 32]⟩ : ByteArray) ++ t107) ++ (⟨#[44, 32, 108, 105, 110, 101, 32]⟩ : ByteArray)) ++ t116).size + 9 ≤ 9223372036854775807) = true := decide_eq_true c32
                      try have c32b2 : (9223372036854775807 < ((((⟨#[116, 101, 120, 116, 32]⟩ : ByteArray) ++ t107) ++ (⟨#[44, 32, 108, 105, 110, 101, 32]⟩ : ByteArray)) ++ t116).size + 9) = False := eq_false (Nat.not_lt.2 c32)
                      try (have c32s2 := c32b2; simp only [ByteArray.size_append, Go.Proofs.Ytmebogkhdbbbbaa.C.ba_lit, List.size_toArray, List.length_cons, List.length_nil, Nat.zero_add, Nat.reduceAdd] at c32s2)
                      replace H := Option.bind_eq_some_iff.mp H
                      obtain ⟨t117, A330, H⟩ := H
                      replace H : (if (((((⟨#[116, 101, 120, 116, 32]⟩ : ByteArray) ++ t107) ++ (⟨#[44, 32, 108, 105, 110, 101, 32]⟩ : ByteArray)) ++ t116) ++ (⟨#[44, 32, 99, 111, 108, 117, 109, 110, 32]⟩ : ByteArray)).size + t117.size ≤ 9223372036854775807 then (if ((((((⟨#[116, 101, 120, 116, 32]⟩ : ByteArray) ++ t107) ++ (⟨#[44, 32, 108, 105, 110, 101, 32]⟩ : ByteArray)) ++ t116) ++ (⟨#[44, 32, 99, 111, 108, 117, 109, 110, 32]⟩ : ByteArray)) ++ t117).size + 2 ≤ 9223372036854775807 then ((report_Message.f kj10 a1_2).bind fun t118 => (if (((((((⟨#[116, 101, 120, 116, 32]⟩ : ByteArray) ++ t107) ++ (⟨#[44, 32, 108, 105, 110, 101, 32]⟩ : ByteArray)) ++ t116) ++ (⟨#[44, 32, 99, 111, 108, 117, 109, 110, 32]⟩ : ByteArray)) ++ t117) ++ (⟨#[58, 32]⟩ : ByteArray)).size + t118.size ≤ 9223372036854775807 then (if ((((((((⟨#[116, 101, 120, 116, 32]⟩ : ByteArray) ++ t107) ++ (⟨#[44, 32, 108, 105, 110, 101, 32]⟩ : ByteArray)) ++ t116) ++ (⟨#[44, 32, 99, 111, 108, 117, 109, 110, 32]⟩ : ByteArray)) ++ t117) ++ (⟨#[58, 32]⟩ : ByteArray)) ++ t118).size + 1 ≤ 9223372036854775807 then ((pl_Mark.f t115 t111 a1_1).bind fun bt119 => (if (((((((((⟨#[116, 101, 120, 116, 32]⟩ : ByteArray) ++ t107) ++ (⟨#[44, 32, 108, 105, 110, 101, 32]⟩ : ByteArray)) ++ t116) ++ (⟨#[44, 32, 99, 111, 108, 117, 109, 110, 32]⟩ : ByteArray)) ++ t117) ++ (⟨#[58, 32]⟩ : ByteArray)) ++ t118) ++ (⟨#[10]⟩ : ByteArray)).size + bt119.1.size ≤ 9223372036854775807 then (if ((((((((((⟨#[116, 101, 120, 116, 32]⟩ : ByteArray) ++ t107) ++ (⟨#[44, 32, 108, 105, 110, 101, 32]⟩ : ByteArray)) ++ t116) ++ (⟨#[44, 32, 99, 111, 108, 117, 109, 110, 32]⟩ : ByteArray)) ++ t117) ++ (⟨#[58, 32]⟩ : ByteArray)) ++ t118) ++ (⟨#[10]⟩ : ByteArray)) ++ bt119.1).size + 1 ≤ 9223372036854775807 then (some (((((((((((⟨#[116, 101, 120, 116, 32]⟩ : ByteArray) ++ t107) ++ (⟨#[44, 32, 108, 105, 110, 101, 32]⟩ : ByteArray)) ++ t116) ++ (⟨#[44, 32, 99, 111, 108, 117, 109, 110, 32]⟩ : ByteArray)) ++ t117) ++ (⟨#[58, 32]⟩ : ByteArray)) ++ t118) ++ (⟨#[10]⟩ : ByteArray)) ++ bt119.1) ++ (⟨#[10]⟩ : ByteArray))) else (none)) else (none))) else (none)) else (none))) else (none)) else (none)) = some r := H
                      have A33 := Aside0.mk A330
                      clear A330
                      by_cases c34 : (((((⟨#[116, 101, 120, 116, 32]⟩ : ByteArray) ++ t107) ++ (⟨#[44, 32, 108, 105, 110, 101, 32]⟩ : ByteArray)) ++ t116) ++ (⟨#[44, 32, 99, 111, 108, 117, 109, 110, 32]⟩ : ByteArray)).size + t117.size ≤ 9223372036854775807
                      · rw [if_pos c34] at H
                        have c34b0 := eq_true c34
                        have c34b1 : decide ((((((⟨#[116, 101, 120, 116, 32]⟩ : ByteArray) ++ t107) ++ (⟨#[44, 32, 108, 105, 110, 101, 32]⟩ : ByteArray)) ++ t116) ++ (⟨#[44, 32, 99, 111, 108, 117, 109, 110, 32]⟩ : ByteArray)).size + t117.size ≤ 9223372036854775807) = true := decide_eq_true c34
                        try have c34b2 : (9223372036854775807 < (((((⟨#[116, 101, 120, 116, 32]⟩ : ByteArray) ++ t107) ++ (⟨#[44, 32, 108, 105, 110, 101, 32]⟩ : ByteArray)) ++ t116) ++ (⟨#[44, 32, 99, 111, 108, 117, 109, 110, 32]⟩ : ByteArray)).size + t117.size) = False := eq_false (Nat.not_lt.2 c34)
                        try (have c34s2 := c34b2; simp only [ByteArray.size_append, Go.Proofs.Ytmebogkhdbbbbaa.C.ba_lit, List.size_toArray, List.length_cons, List.length_nil, Nat.zero_add, Nat.reduceAdd] at c34s2)
                        by_cases c35 : ((((((⟨#[116, 101, 120, 116, 32]⟩ : ByteArray) ++ t107) ++ (⟨#[44, 32, 108, 105, 110, 101, 32]⟩ : ByteArray)) ++ t116) ++ (⟨#[44, 32, 99, 111, 108, 117, 109, 110, 32]⟩ : ByteArray)) ++ t117).size + 2 ≤ 9223372036854775807
                        · rw [if_pos c35] at H
                          have c35b0 := eq_true c35
                          have c35b1 : decide (((((((⟨#[116, 101, 120, 116, 32]⟩ : ByteArray) ++ t107) ++ (⟨#[44, 32, 108, 105, 110, 101, 32]⟩ : ByteArray)) ++ t116) ++ (⟨#[44, 32, 99, 111, 108, 117, 109, 110, 32]⟩ : ByteArray)) ++ t117).size + 2 ≤ 9223372036854775807) = true := decide_eq_true c35
                          try have c35b2 : (9223372036854775807 < ((((((⟨#[116, 101, 120, 116, 32]⟩ : ByteArray) ++ t107) ++ (⟨#[44, 32, 108, 105, 110, 101, 32]⟩ : ByteArray)) ++ t116) ++ (⟨#[44, 32, 99, 111, 108, 117, 109, 110, 32]⟩ : ByteArray)) ++ t117).size + 2) = False := eq_false (Nat.not_lt.2 c35)
                          try (have c35s2 := c35b2; simp only [ByteArray.size_append, Go.Proofs.Ytmebogkhdbbbbaa.C.ba_lit, List.size_toArray, List.length_cons, List.length_nil, Nat.zero_add, Nat.reduceAdd] at c35s2)
                          replace H := Option.bind_eq_some_iff.mp H
                          obtain ⟨t118, A360, H⟩ := H
                          replace H : (if (((((((⟨#[116, 101, 120, 116, 32]⟩ : ByteArray) ++ t107) ++ (⟨#[44, 32, 108, 105, 110, 101, 32]⟩ : ByteArray)) ++ t116) ++ (⟨#[44, 32, 99, 111, 108, 117, 109, 110, 32]⟩ : ByteArray)) ++ t117) ++ (⟨#[58, 32]⟩ : ByteArray)).size + t118.size ≤ 9223372036854775807 then (if ((((((((⟨#[116, 101, 120, 116, 32]⟩ : ByteArray) ++ t107) ++ (⟨#[44, 32, 108, 105, 110, 101, 32]⟩ : ByteArray)) ++ t116) ++ (⟨#[44, 32, 99, 111, 108, 117, 109, 110, 32]⟩ : ByteArray)) ++ t117) ++ (⟨#[58, 32]⟩ : ByteArray)) ++ t118).size + 1 ≤ 9223372036854775807 then ((pl_Mark.f t115 t111 a1_1).bind fun bt119 => (if (((((((((⟨#[116, 101, 120, 116, 32]⟩ : ByteArray) ++ t107) ++ (⟨#[44, 32, 108, 105, 110, 101, 32]⟩ : ByteArray)) ++ t116) ++ (⟨#[44, 32, 99, 111, 108, 117, 109, 110, 32]⟩ : ByteArray)) ++ t117) ++ (⟨#[58, 32]⟩ : ByteArray)) ++ t118) ++ (⟨#[10]⟩ : ByteArray)).size + bt119.1.size ≤ 9223372036854775807 then (if ((((((((((⟨#[116, 101, 120, 116, 32]⟩ : ByteArray) ++ t107) ++ (⟨#[44, 32, 108, 105, 110, 101, 32]⟩ : ByteArray)) ++ t116) ++ (⟨#[44, 32, 99, 111, 108, 117, 109, 110, 32]⟩ : ByteArray)) ++ t117) ++ (⟨#[58, 32]⟩ : ByteArray)) ++ t118) ++ (⟨#[10]⟩ : ByteArray)) ++ bt119.1).size + 1 ≤ 9223372036854775807 then (some (((((((((((⟨#[116, 101, 120, 116, 32]⟩ : ByteArray) ++ t107) ++ (⟨#[44, 32, 108, 105, 110, 101, 32]⟩ : ByteArray)) ++ t116) ++ (⟨#[44, 32, 99, 111, 108, 117, 109, 110, 32]⟩ : ByteArray)) ++ t117) ++ (⟨#[58, 32]⟩ : ByteArray)) ++ t118) ++ (⟨#[10]⟩ : ByteArray)) ++ bt119.1) ++ (⟨#[10]⟩ : ByteArray))) else (none)) else (none))) else (none)) else (none)) = some r := H
                          have A36 := Aside0.mk A360
                          clear A360
                          by_cases c37 : (((((((⟨#[116, 101, 120, 116, 32]⟩ : ByteArray) ++ t107) ++ (⟨#[44, 32, 108, 105, 110, 101, 32]⟩ : ByteArray)) ++ t116) ++ (⟨#[44, 32, 99, 111, 108, 117, 109, 110, 32]⟩ : ByteArray)) ++ t117) ++ (⟨#[58, 32]⟩ : ByteArray)).size + t118.size ≤ 9223372036854775807
                          · rw [if_pos c37] at H
                            have c37b0 := eq_true c37
                            have c37b1 : decide ((((((((⟨#[116, 101, 120, 116, 32]⟩ : ByteArray) ++ t107) ++ (⟨#[44, 32, 108, 105, 110, 101, 32]⟩ : ByteArray)) ++ t116) ++ (⟨#[44, 32, 99, 111, 108, 117, 109, 110, 32]⟩ : ByteArray)) ++ t117) ++ (⟨#[58, 32]⟩ : ByteArray)).size + t118.size ≤ 9223372036854775807) = true := decide_eq_true c37
                            try have c37b2 : (9223372036854775807 < (((((((⟨#[116, 101, 120, 116, 32]⟩ : ByteArray) ++ t107) ++ (⟨#[44, 32, 108, 105, 110, 101, 32]⟩ : ByteArray)) ++ t116) ++ (⟨#[44, 32, 99, 111, 108, 117, 109, 110, 32]⟩ : ByteArray)) ++ t117) ++ (⟨#[58, 32]⟩ : ByteArray)).size + t118.size) = False := eq_false (Nat.not_lt.2 c37)
                            try (have c37s2 := c37b2; simp only [ByteArray.size_append, Go.Proofs.Ytmebogkhdbbbbaa.C.ba_lit, List.size_toArray, List.length_cons, List.length_nil, Nat.zero_add, Nat.reduceAdd] at c37s2)
                            by_cases c38 : ((((((((⟨#[116, 101, 120, 116, 32]⟩ : ByteArray) ++ t107) ++ (⟨#[44, 32, 108, 105, 110, 101, 32]⟩ : ByteArray)) ++ t116) ++ (⟨#[44, 32, 99, 111, 108, 117, 109, 110, 32]⟩ : ByteArray)) ++ t117) ++ (⟨#[58, 32]⟩ : ByteArray)) ++ t118).size + 1 ≤ 9223372036854775807
                            · rw [if_pos c38] at H
                              have c38b0 := eq_true c38
                              have c38b1 : decide (((((((((⟨#[116, 101, 120, 116, 32]⟩ : ByteArray) ++ t107) ++ (⟨#[44, 32, 108, 105, 110, 101, 32]⟩ : ByteArray)) ++ t116) ++ (⟨#[44, 32, 99, 111, 108, 117, 109, 110, 32]⟩ : ByteArray)) ++ t117) ++ (⟨#[58, 32]⟩ : ByteArray)) ++ t118).size + 1 ≤ 9223372036854775807) = true := decide_eq_true c38
                              try have c38b2 : (9223372036854775807 < ((((((((⟨#[116, 101, 120, 116, 32]⟩ : ByteArray) ++ t107) ++ (⟨#[44, 32, 108, 105, 110, 101, 32]⟩ : ByteArray)) ++ t116) ++ (⟨#[44, 32, 99, 111, 108, 117, 109, 110, 32]⟩ : ByteArray)) ++ t117) ++ (⟨#[58, 32]⟩ : ByteArray)) ++ t118).size + 1) = False := eq_false (Nat.not_lt.2 c38)
                              try (have c38s2 := c38b2; simp only [ByteArray.size_append, Go.Proofs.Ytmebogkhdbbbbaa.C.ba_lit, List.size_toArray, List.length_cons, List.length_nil, Nat.zero_add, Nat.reduceAdd] at c38s2)
                              replace H := Option.bind_eq_some_iff.mp H
                              obtain ⟨⟨t119, t120⟩, A390, H⟩ := H
                              replace H : (if (((((((((⟨#[116, 101, 120, 116, 32]⟩ : ByteArray) ++ t107) ++ (⟨#[44, 32, 108, 105, 110, 101, 32]⟩ : ByteArray)) ++ t116) ++ (⟨#[44, 32, 99, 111, 108, 117, 109, 110, 32]⟩ : ByteArray)) ++ t117) ++ (⟨#[58, 32]⟩ : ByteArray)) ++ t118) ++ (⟨#[10]⟩ : ByteArray)).size + t119.size ≤ 9223372036854775807 then (if ((((((((((⟨#[116, 101, 120, 116, 32]⟩ : ByteArray) ++ t107) ++ (⟨#[44, 32, 108, 105, 110, 101, 32]⟩ : ByteArray)) ++ t116) ++ (⟨#[44, 32, 99, 111, 108, 117, 109, 110, 32]⟩ : ByteArray)) ++ t117) ++ (⟨#[58, 32]⟩ : ByteArray)) ++ t118) ++ (⟨#[10]⟩ : ByteArray)) ++ t119).size + 1 ≤ 9223372036854775807 then (some (((((((((((⟨#[116, 101, 120, 116, 32]⟩ : ByteArray) ++ t107) ++ (⟨#[44, 32, 108, 105, 110, 101, 32]⟩ : ByteArray)) ++ t116) ++ (⟨#[44, 32, 99, 111, 108, 117, 109, 110, 32]⟩ : ByteArray)) ++ t117) ++ (⟨#[58, 32]⟩ : ByteArray)) ++ t118) ++ (⟨#[10]⟩ : ByteArray)) ++ t119) ++ (⟨#[10]⟩ : ByteArray))) else (none)) else (none)) = some r := H
                              have A39 := Aside0.mk A390
                              clear A390
                              by_cases c40 : (((((((((⟨#[116, 101, 120, 116, 32]⟩ : ByteArray) ++ t107) ++ (⟨#[44, 32, 108, 105, 110, 101, 32]⟩ : ByteArray)) ++ t116) ++ (⟨#[44, 32, 99, 111, 108, 117, 109, 110, 32]⟩ : ByteArray)) ++ t117) ++ (⟨#[58, 32]⟩ : ByteArray)) ++ t118) ++ (⟨#[10]⟩ : ByteArray)).size + t119.size ≤ 9223372036854775807
                              · rw [if_pos c40] at H
                                have c40b0 := eq_true c40
                                have c40b1 : decide ((((((((((⟨#[116, 101, 120, 116, 32]⟩ : ByteArray) ++ t107) ++ (⟨#[44, 32, 108, 105, 110, 101, 32]⟩ : ByteArray)) ++ t116) ++ (⟨#[44, 32, 99, 111, 108, 117, 109, 110, 32]⟩ : ByteArray)) ++ t117) ++ (⟨#[58, 32]⟩ : ByteArray)) ++ t118) ++ (⟨#[10]⟩ : ByteArray)).size + t119.size ≤ 9223372036854775807) = true := decide_eq_true c40
                                try have c40b2 : (9223372036854775807 < (((((((((⟨#[116, 101, 120, 116, 32]⟩ : ByteArray) ++ t107) ++ (⟨#[44, 32, 108, 105, 110, 101, 32]⟩ : ByteArray)) ++ t116) ++ (⟨#[44, 32, 99, 111, 108, 117, 109, 110, 32]⟩ : ByteArray)) ++ t117) ++ (⟨#[58, 32]⟩ : ByteArray)) ++ t118) ++ (⟨#[10]⟩ : ByteArray)).size + t119.size) = False := eq_false (Nat.not_lt.2 c40)
                                try (have c40s2 := c40b2; simp only [ByteArray.size_append, Go.Proofs.Ytmebogkhdbbbbaa.C.ba_lit, List.size_toArray, List.length_cons, List.length_nil, Nat.zero_add, Nat.reduceAdd] at c40s2)
                                by_cases c41 : ((((((((((⟨#[116, 101, 120, 116, 32]⟩ : ByteArray) ++ t107) ++ (⟨#[44, 32, 108, 105, 110, 101, 32]⟩ : ByteArray)) ++ t116) ++ (⟨#[44, 32, 99, 111, 108, 117, 109, 110, 32]⟩ : ByteArray)) ++ t117) ++ (⟨#[58, 32]⟩ : ByteArray)) ++ t118) ++ (⟨#[10]⟩ : ByteArray)) ++ t119).size + 1 ≤ 9223372036854775807
                                · rw [if_pos c41] at H
                                  have c41b0 := eq_true c41
                                  have c41b1 : decide (((((((((((⟨#[116, 101, 120, 116, 32]⟩ : ByteArray) ++ t107) ++ (⟨#[44, 32, 108, 105, 110, 101, 32]⟩ : ByteArray)) ++ t116) ++ (⟨#[44, 32, 99, 111, 108, 117, 109, 110, 32]⟩ : ByteArray)) ++ t117) ++ (⟨#[58, 32]⟩ : ByteArray)) ++ t118) ++ (⟨#[10]⟩ : ByteArray)) ++ t119).size + 1 ≤ 9223372036854775807) = true := decide_eq_true c41
                                  try have c41b2 : (9223372036854775807 < ((((((((((⟨#[116, 101, 120, 116, 32]⟩ : ByteArray) ++ t107) ++ (⟨#[44, 32, 108, 105, 110, 101, 32]⟩ : ByteArray)) ++ t116) ++ (⟨#[44, 32, 99, 111, 108, 117, 109, 110, 32]⟩ : ByteArray)) ++ t117) ++ (⟨#[58, 32]⟩ : ByteArray)) ++ t118) ++ (⟨#[10]⟩ : ByteArray)) ++ t119).size + 1) = False := eq_false (Nat.not_lt.2 c41)
                                  try (have c41s2 := c41b2; simp only [ByteArray.size_append, Go.Proofs.Ytmebogkhdbbbbaa.C.ba_lit, List.size_toArray, List.length_cons, List.length_nil, Nat.zero_add, Nat.reduceAdd] at c41s2)
                                  obtain rfl := Option.some.inj H
                                  have hcz42_0 : wc.cell? ⟨gb105, 0, none⟩ = some (.int .i64 a1_0) := (blk_cell BK105.out 0).trans rfl
                                  have hcz42_1 : wc.cell? ⟨gb105, 1, none⟩ = some (.int .i64 a1_1) := (blk_cell BK105.out 1).trans rfl
                                  have hcz42_2 : wc.cell? ⟨gb105, 2, none⟩ = some (.int .i64 a1_2) := (blk_cell BK105.out 2).trans rfl
                                  have hfz42_0 := blk_frozen BK105.out 0
                                  have hfz42_1 := blk_frozen BK105.out 1
                                  have hfz42_2 := blk_frozen BK105.out 2
                                  have p109 : 0 ≤ (a1_0 : Int) := of_decide_eq_true (by first | (with_reducible assumption) | assumption)
                                  have q109 : a1_0 < (l0.length : Int) := of_decide_eq_true (by first | (with_reducible assumption) | assumption)
                                  obtain ⟨ad109, e109, hx109_0⟩ := Kd.at_string HR0.out a1_0 p109 q109
                                  cases e109
                                  replace hx109_0 := (HB.out.cell (World.block_lt_of_cell? w _ hx109_0)).trans hx109_0
                                  replace p109 := eq_true p109
                                  replace q109 := eq_true q109
                                  try go_wp2_with (first | ((with_reducible refine gate_callee (f := 19) rfl ?_); refine goesL_ (some 43) rfl rfl Try.func19 (by kernel_rfl) rfl #[.string (rdOf ByteArray.empty l0 a1_0)] rfl (by (try simp only [List.map_toArray, List.map_cons, List.map_nil]); first | done | rfl | (simp only [List.length_drop, List.length_take]; rfl)) ?_; (with_reducible refine (pl_New.calls (rdOf ByteArray.empty l0 a1_0) t110 t111 w _ ?side1 A27.out).mono ?_); (case side1 => repeat (first | (with_reducible first | exact HB.out | apply below_alloc | apply pw_below_drewN | apply below_drew1 | refine below_set ?_ GE105.out) | exact HB.out)); rintro e w43 ⟨g112, rfl, hi, hb, hb2⟩; refine ⟨_, rfl, ?_⟩; have n0_ := Aside0.mk (blk_below (g := gb105) (o := .cells #[.int .i64 a1_0, .int .i64 a1_1, .int .i64 a1_2] 25 (0, 0)) (by (with_reducible repeat (first | refine blk_drewN ?_ _ | refine blk_drew ?_ | refine blk_alloc ?_ _)); exact BK105.out) hb2); have n1_ := Aside0.mk (hb); have n2_ := Aside0.mk (hi); have n3_ := Aside0.mk (PlIs.ne_blk hi (blk_below (g := gb105) (o := .cells #[.int .i64 a1_0, .int .i64 a1_1, .int .i64 a1_2] 25 (0, 0)) (by (with_reducible repeat (first | refine blk_drewN ?_ _ | refine blk_drew ?_ | refine blk_alloc ?_ _)); exact BK105.out) hb2) (by decide)); have n4_ := Aside0.mk (Ne.symm (PlIs.ne_blk hi (blk_below (g := gb105) (o := .cells #[.int .i64 a1_0, .int .i64 a1_1, .int .i64 a1_2] 25 (0, 0)) (by (with_reducible repeat (first | refine blk_drewN ?_ _ | refine blk_drew ?_ | refine blk_alloc ?_ _)); exact BK105.out) hb2) (by decide))); clear BK105; clear HB; have BK105 := n0_; have HB := n1_; have HI112 := n2_; have NB112_105 := n3_; have NB105_112 := n4_; clear n0_ n1_ n2_ n3_ n4_; (try clear hb); (try clear hb2); (try clear hk); (try clear hi); have hnb44 := NB105_112.out; have hnc44 := NB112_105.out; have hcz45_0 : w43.cell? ⟨gb105, 0, none⟩ = some (.int .i64 a1_0) := (blk_cell BK105.out 0).trans rfl; have hcz45_1 : w43.cell? ⟨gb105, 1, none⟩ = some (.int .i64 a1_1) := (blk_cell BK105.out 1).trans rfl; have hcz45_2 : w43.cell? ⟨gb105, 2, none⟩ = some (.int .i64 a1_2) := (blk_cell BK105.out 2).trans rfl; have hfz45_0 := blk_frozen BK105.out 0; have hfz45_1 := blk_frozen BK105.out 1; have hfz45_2 := blk_frozen BK105.out 2) | ((with_reducible refine gate_callee (f := 20) rfl ?_); refine goesL_ (some 48) rfl rfl Try.func20 (by kernel_rfl) rfl #[.pointer (some ⟨g112, 0, none⟩), .int .i64 a1_1] rfl (by (try simp only [List.map_toArray, List.map_cons, List.map_nil]); first | done | rfl | (simp only [List.length_drop, List.length_take]; rfl)) ?_; (with_reducible refine (pl_At.calls g112 t110 t111 a1_1 t113 t114 t115 w _ ?side1 ?side2 A28.out).mono ?_); (case side1 => repeat (first | (with_reducible first | exact HI112.out | apply PlIs.alloc | apply PlIs.drewN | apply PlIs.drew | apply PlIs.set_0 | refine PlIs.far ?_ NB112_105.out _) | exact HI112.out)); (case side2 => repeat (first | (with_reducible first | exact HB.out | apply below_alloc | apply pw_below_drewN | apply below_drew1 | refine below_set ?_ (PlIs.ge HI112.out) | refine below_set ?_ GE105.out) | exact HB.out)); rintro e w46 ⟨rfl, hi, hb, hk⟩; refine ⟨_, rfl, ?_⟩; have n0_ := Aside0.mk (KeepBut.blk hk (g' := gb105) (o := .cells #[.int .i64 a1_0, .int .i64 a1_1, .int .i64 a1_2] 25 (0, 0)) (by (with_reducible repeat (first | refine blk_drewN ?_ _ | refine blk_drew ?_ | refine blk_alloc ?_ _)); exact BK105.out) NB105_112.out (by simp)); have n1_ := Aside0.mk (hb); have n2_ := Aside0.mk (hi); clear BK105; clear HB; clear HI112; have BK105 := n0_; have HB := n1_; have HI112 := n2_; clear n0_ n1_ n2_; (try clear hb); (try clear hb2); (try clear hk); (try clear hi)))
                                  have n0_ := Aside0.mk (blk_drew BK105.out)
                                  have n1_ := Aside0.mk (PlIs.drew HI112.out)
                                  have n2_ := Aside0.mk (below_drew1 HB.out)
                                  clear BK105
                                  clear HI112
                                  clear HB
                                  have BK105 := n0_
                                  have HI112 := n1_
                                  have HB := n2_
                                  clear n0_ n1_ n2_
                                  refine start_ (n := 22) (S := fun w' => w'.cell? ⟨gb105, 0, none⟩ = some (.int .i64 a1_0) ∧ w'.cell? ⟨gb105, 1, none⟩ = some (.int .i64 a1_1) ∧ w'.cell? ⟨gb105, 2, none⟩ = some (.int .i64 a1_2)) (ds := []) #[false, false, false, false, false, false, false, false, false, false, false, false, false, false, false, false, false, false, false, false, false, false] (by kernel_rfl) rfl rfl ⟨(blk_cell BK105.out 0).trans rfl, (blk_cell BK105.out 1).trans rfl, (blk_cell BK105.out 2).trans rfl⟩ (fun hHeld => ?_); refine with_tabW report_Fault.tab8 report_Fault.bits8 (fun HT_ HW_ => ?_)
                                  generalize w46.drew = w47 at BK105 HI112 HB hHeld ⊢
                                  refine pure_ (i := 0) (N := some 51) (v := ?_) (a' := ?_) #[true, false, false, false, false, false, false, false, false, false, false, false, false, false, false, false, false, false, false, false, false, false] rfl rfl (any_of HT_.out (by kernel_rfl)) (fun _ _ _ h => h) (Or.inl ⟨by rfl, ?_⟩) ?_ ?_
                                  rotate_left
                                  · intro w'
                                    go_simp
                                    with_reducible rfl
                                  rotate_left
                                  · simp only [Act.put, List.setIfInBounds_toArray, List.set_cons_zero, List.set_cons_succ, i64_w, i32_w]
                                    rfl
                                  refine pure_ (i := 1) (N := some 52) (v := ?_) (a' := ?_) #[true, true, false, false, false, false, false, false, false, false, false, false, false, false, false, false, false, false, false, false, false, false] rfl rfl (any_of HT_.out (by kernel_rfl)) (fun _ _ _ h => h) (Or.inl ⟨by rfl, ?_⟩) ?_ ?_
                                  rotate_left
                                  · intro w'
                                    go_simp
                                    with_reducible rfl
                                  rotate_left
                                  · simp only [Act.put, List.setIfInBounds_toArray, List.set_cons_zero, List.set_cons_succ, i64_w, i32_w]
                                    rfl
                                  refine pure_ (i := 2) (N := some 53) (v := ?_) (a' := ?_) #[true, true, true, false, false, false, false, false, false, false, false, false, false, false, false, false, false, false, false, false, false, false] rfl rfl (any_of HT_.out (by kernel_rfl)) (fun _ _ _ h => h) (Or.inl ⟨by rfl, ?_⟩) ?_ ?_
                                  rotate_left
                                  · intro w'
                                    go_simp
                                    with_reducible rfl
                                  rotate_left
                                  · simp only [Act.put, List.setIfInBounds_toArray, List.set_cons_zero, List.set_cons_succ, i64_w, i32_w]
                                    rfl
                                  refine pure_ (i := 6) (N := some 57) (v := ?_) (a' := ?_) #[true, true, true, false, false, false, true, false, false, false, false, false, false, false, false, false, false, false, false, false, false, false] rfl rfl (any_of HT_.out (by kernel_rfl)) (fun _ _ _ h => h) (Or.inl ⟨by rfl, ?_⟩) ?_ ?_
                                  rotate_left
                                  · intro w'
                                    go_simp
                                    with_reducible rfl
                                  rotate_left
                                  · simp only [Act.put, List.setIfInBounds_toArray, List.set_cons_zero, List.set_cons_succ, i64_w, i32_w]
                                    rfl
                                  refine pure_ (i := 10) (N := some 61) (v := ?_) (a' := ?_) #[true, true, true, false, false, false, true, false, false, false, true, false, false, false, false, false, false, false, false, false, false, false] rfl rfl (any_of HT_.out (by kernel_rfl)) (fun _ _ _ h => h) (Or.inl ⟨by rfl, ?_⟩) ?_ ?_
                                  rotate_left
                                  · intro w'
                                    go_simp
                                    with_reducible rfl
                                  rotate_left
                                  · simp only [Act.put, List.setIfInBounds_toArray, List.set_cons_zero, List.set_cons_succ, i64_w, i32_w]
                                    rfl
                                  refine pure_ (i := 15) (N := some 66) (v := ?_) (a' := ?_) #[true, true, true, false, false, false, true, false, false, false, true, false, false, false, false, true, false, false, false, false, false, false] rfl rfl (any_of HT_.out (by kernel_rfl)) (fun _ _ _ h => h) (Or.inl ⟨by rfl, ?_⟩) ?_ ?_
                                  rotate_left
                                  · intro w'
                                    go_simp
                                    with_reducible rfl
                                  rotate_left
                                  · simp only [Act.put, List.setIfInBounds_toArray, List.set_cons_zero, List.set_cons_succ, i64_w, i32_w]
                                    rfl
                                  refine pure_ (i := 16) (N := some 67) (v := ?_) (a' := ?_) #[true, true, true, false, false, false, true, false, false, false, true, false, false, false, false, true, true, false, false, false, false, false] rfl rfl (any_of HT_.out (by kernel_rfl)) (fun _ _ _ h => h) (Or.inl ⟨by rfl, ?_⟩) ?_ ?_
                                  rotate_left
                                  · intro w'
                                    go_simp
                                    with_reducible rfl
                                  rotate_left
                                  · simp only [Act.put, List.setIfInBounds_toArray, List.set_cons_zero, List.set_cons_succ, i64_w, i32_w]
                                    rfl
                                  refine take_ (i := 11) (N := some 62) (v := ?_) (a' := ?_) #[true, true, true, false, false, false, true, false, false, false, true, true, false, false, false, true, true, false, false, false, false, false] rfl rfl (take_ofW HT_.out HW_.out (by kernel_rfl)) (fun _ _ _ h => h) (Or.inl ⟨by rfl, ?_⟩) hHeld ?_ ?_
                                  rotate_left
                                  · rintro w' ⟨s0, s1, s2⟩
                                    go_simp
                                    with_reducible rfl
                                  rotate_left
                                  · simp only [Act.put, List.setIfInBounds_toArray, List.set_cons_zero, List.set_cons_succ, i64_w, i32_w]
                                    rfl
                                  refine take_ (i := 17) (N := some 68) (v := ?_) (a' := ?_) #[true, true, true, false, false, false, true, false, false, false, true, true, false, false, false, true, true, true, false, false, false, false] rfl rfl (take_ofW HT_.out HW_.out (by kernel_rfl)) (fun _ _ _ h => h) (Or.inl ⟨by rfl, ?_⟩) hHeld ?_ ?_
                                  rotate_left
                                  · rintro w' ⟨s0, s1, s2⟩
                                    go_simp
                                    with_reducible rfl
                                  rotate_left
                                  · simp only [Act.put, List.setIfInBounds_toArray, List.set_cons_zero, List.set_cons_succ, i64_w, i32_w]
                                    rfl
                                  refine one_ (i := 3) (N := some 54) #[true, true, true, true, false, false, true, false, false, false, true, true, false, false, false, true, true, true, false, false, false, false] rfl rfl (one_of HT_.out (by kernel_rfl)) (by decide) (fun K hK => ?_)
                                  refine goes_ Try.func18 (by kernel_rfl) rfl #[.int .i64 t113] (by rfl) rfl rfl (by (try simp only [List.map_toArray, List.map_cons, List.map_nil]); first | done | rfl | (simp only [List.length_drop, List.length_take]; rfl)) ?_
                                  with_reducible refine (word_Text.calls t113 t116 _ A30.out).mono ?_
                                  rintro e w48 ⟨rfl, hb⟩
                                  refine ⟨_, rfl, ?_⟩
                                  have n0_ := Aside0.mk (blk_below (g := gb105) (o := .cells #[.int .i64 a1_0, .int .i64 a1_1, .int .i64 a1_2] 25 (0, 0)) (by (with_reducible repeat (first | refine blk_drewN ?_ _ | refine blk_drew ?_ | refine blk_alloc ?_ _)); exact BK105.out) hb)
                                  have n1_ := Aside0.mk (PlIs.below (by repeat (first | (with_reducible first | exact HI112.out | apply PlIs.alloc | apply PlIs.drewN | apply PlIs.drew | apply PlIs.set_0 | refine PlIs.far ?_ NB112_105.out _) | exact HI112.out)) hb)
                                  have n2_ := Aside0.mk (below_step (by repeat (first | (with_reducible first | exact HB.out | apply below_alloc | apply pw_below_drewN | apply below_drew1 | refine below_set ?_ (PlIs.ge HI112.out) | refine below_set ?_ GE105.out) | exact HB.out)) hb)
                                  clear BK105
                                  clear HI112
                                  clear HB
                                  have BK105 := n0_
                                  have HI112 := n1_
                                  have HB := n2_
                                  clear n0_ n1_ n2_
                                  (try clear hb)
                                  (try clear hb2)
                                  (try clear hk)
                                  (try clear hi)
                                  refine hK.out _ _ ⟨(blk_cell BK105.out 0).trans rfl, (blk_cell BK105.out 1).trans rfl, (blk_cell BK105.out 2).trans rfl⟩ (fun hHeld => ?_)
                                  clear hK K
                                  refine norm_ (a' := ?_) ?_ ?_
                                  rotate_left
                                  · show Act.put _ (some 54) _ = _
                                    simp only [Act.put, List.setIfInBounds_toArray, List.set_cons_zero, List.set_cons_succ, i64_w, i32_w]
                                    rfl
                                  refine pure_ (i := 4) (N := some 55) (v := ?_) (a' := ?_) #[true, true, true, true, true, false, true, false, false, false, true, true, false, false, false, true, true, true, false, false, false, false] rfl rfl (any_of HT_.out (by kernel_rfl)) (fun _ _ _ h => h) (Or.inl ⟨by rfl, ?_⟩) ?_ ?_
                                  rotate_left
                                  · intro w'
                                    go_simp
                                    with_reducible rfl
                                  rotate_left
                                  · simp only [Act.put, List.setIfInBounds_toArray, List.set_cons_zero, List.set_cons_succ, i64_w, i32_w]
                                    rfl
                                  refine pure_ (i := 5) (N := some 56) (v := ?_) (a' := ?_) #[true, true, true, true, true, true, true, false, false, false, true, true, false, false, false, true, true, true, false, false, false, false] rfl rfl (any_of HT_.out (by kernel_rfl)) (fun _ _ _ h => h) (Or.inl ⟨by rfl, ?_⟩) ?_ ?_
                                  rotate_left
                                  · intro w'
                                    go_simp
                                    with_reducible rfl
                                  rotate_left
                                  · simp only [Act.put, List.setIfInBounds_toArray, List.set_cons_zero, List.set_cons_succ, i64_w, i32_w]
                                    rfl
                                  refine one_ (i := 7) (N := some 58) #[true, true, true, true, true, true, true, true, false, false, true, true, false, false, false, true, true, true, false, false, false, false] rfl rfl (one_of HT_.out (by kernel_rfl)) (by decide) (fun K hK => ?_)
                                  refine goes_ Try.func18 (by kernel_rfl) rfl #[.int .i64 t114] (by rfl) rfl rfl (by (try simp only [List.map_toArray, List.map_cons, List.map_nil]); first | done | rfl | (simp only [List.length_drop, List.length_take]; rfl)) ?_
                                  with_reducible refine (word_Text.calls t114 t117 _ A33.out).mono ?_
                                  rintro e w49 ⟨rfl, hb⟩
                                  refine ⟨_, rfl, ?_⟩
                                  have n0_ := Aside0.mk (blk_below (g := gb105) (o := .cells #[.int .i64 a1_0, .int .i64 a1_1, .int .i64 a1_2] 25 (0, 0)) (by (with_reducible repeat (first | refine blk_drewN ?_ _ | refine blk_drew ?_ | refine blk_alloc ?_ _)); exact BK105.out) hb)
                                  have n1_ := Aside0.mk (PlIs.below (by repeat (first | (with_reducible first | exact HI112.out | apply PlIs.alloc | apply PlIs.drewN | apply PlIs.drew | apply PlIs.set_0 | refine PlIs.far ?_ NB112_105.out _) | exact HI112.out)) hb)
                                  have n2_ := Aside0.mk (below_step (by repeat (first | (with_reducible first | exact HB.out | apply below_alloc | apply pw_below_drewN | apply below_drew1 | refine below_set ?_ (PlIs.ge HI112.out) | refine below_set ?_ GE105.out) | exact HB.out)) hb)
                                  clear BK105
                                  clear HI112
                                  clear HB
                                  have BK105 := n0_
                                  have HI112 := n1_
                                  have HB := n2_
                                  clear n0_ n1_ n2_
                                  (try clear hb)
                                  (try clear hb2)
                                  (try clear hk)
                                  (try clear hi)
                                  refine hK.out _ _ ⟨(blk_cell BK105.out 0).trans rfl, (blk_cell BK105.out 1).trans rfl, (blk_cell BK105.out 2).trans rfl⟩ (fun hHeld => ?_)
                                  clear hK K
                                  refine norm_ (a' := ?_) ?_ ?_
                                  rotate_left
                                  · show Act.put _ (some 58) _ = _
                                    simp only [Act.put, List.setIfInBounds_toArray, List.set_cons_zero, List.set_cons_succ, i64_w, i32_w]
                                    rfl
                                  refine pure_ (i := 8) (N := some 59) (v := ?_) (a' := ?_) #[true, true, true, true, true, true, true, true, true, false, true, true, false, false, false, true, true, true, false, false, false, false] rfl rfl (any_of HT_.out (by kernel_rfl)) (fun _ _ _ h => h) (Or.inl ⟨by rfl, ?_⟩) ?_ ?_
                                  rotate_left
                                  · intro w'
                                    go_simp
                                    with_reducible rfl
                                  rotate_left
                                  · simp only [Act.put, List.setIfInBounds_toArray, List.set_cons_zero, List.set_cons_succ, i64_w, i32_w]
                                    rfl
                                  refine pure_ (i := 9) (N := some 60) (v := ?_) (a' := ?_) #[true, true, true, true, true, true, true, true, true, true, true, true, false, false, false, true, true, true, false, false, false, false] rfl rfl (any_of HT_.out (by kernel_rfl)) (fun _ _ _ h => h) (Or.inl ⟨by rfl, ?_⟩) ?_ ?_
                                  rotate_left
                                  · intro w'
                                    go_simp
                                    with_reducible rfl
                                  rotate_left
                                  · simp only [Act.put, List.setIfInBounds_toArray, List.set_cons_zero, List.set_cons_succ, i64_w, i32_w]
                                    rfl
                                  refine one_ (i := 12) (N := some 63) #[true, true, true, true, true, true, true, true, true, true, true, true, true, false, false, true, true, true, false, false, false, false] rfl rfl (one_of HT_.out (by kernel_rfl)) (by decide) (fun K hK => ?_)
                                  refine goes_ Try.func9 (by kernel_rfl) rfl #[.int .i64 a1_2] (by rfl) rfl rfl (by (try simp only [List.map_toArray, List.map_cons, List.map_nil]); first | done | rfl | (simp only [List.length_drop, List.length_take]; rfl)) ?_
                                  with_reducible refine (report_Message.calls kj10 a1_2 t118 _ A36.out).mono ?_
                                  rintro e w50 ⟨rfl, hb⟩
                                  refine ⟨_, rfl, ?_⟩
                                  have n0_ := Aside0.mk (blk_below (g := gb105) (o := .cells #[.int .i64 a1_0, .int .i64 a1_1, .int .i64 a1_2] 25 (0, 0)) (by (with_reducible repeat (first | refine blk_drewN ?_ _ | refine blk_drew ?_ | refine blk_alloc ?_ _)); exact BK105.out) hb)
                                  have n1_ := Aside0.mk (PlIs.below (by repeat (first | (with_reducible first | exact HI112.out | apply PlIs.alloc | apply PlIs.drewN | apply PlIs.drew | apply PlIs.set_0 | refine PlIs.far ?_ NB112_105.out _) | exact HI112.out)) hb)
                                  have n2_ := Aside0.mk (below_step (by repeat (first | (with_reducible first | exact HB.out | apply below_alloc | apply pw_below_drewN | apply below_drew1 | refine below_set ?_ (PlIs.ge HI112.out) | refine below_set ?_ GE105.out) | exact HB.out)) hb)
                                  clear BK105
                                  clear HI112
                                  clear HB
                                  have BK105 := n0_
                                  have HI112 := n1_
                                  have HB := n2_
                                  clear n0_ n1_ n2_
                                  (try clear hb)
                                  (try clear hb2)
                                  (try clear hk)
                                  (try clear hi)
                                  refine hK.out _ _ ⟨(blk_cell BK105.out 0).trans rfl, (blk_cell BK105.out 1).trans rfl, (blk_cell BK105.out 2).trans rfl⟩ (fun hHeld => ?_)
                                  clear hK K
                                  refine norm_ (a' := ?_) ?_ ?_
                                  rotate_left
                                  · show Act.put _ (some 63) _ = _
                                    simp only [Act.put, List.setIfInBounds_toArray, List.set_cons_zero, List.set_cons_succ, i64_w, i32_w]
                                    rfl
                                  refine pure_ (i := 13) (N := some 64) (v := ?_) (a' := ?_) #[true, true, true, true, true, true, true, true, true, true, true, true, true, true, false, true, true, true, false, false, false, false] rfl rfl (any_of HT_.out (by kernel_rfl)) (fun _ _ _ h => h) (Or.inl ⟨by rfl, ?_⟩) ?_ ?_
                                  rotate_left
                                  · intro w'
                                    go_simp
                                    with_reducible rfl
                                  rotate_left
                                  · simp only [Act.put, List.setIfInBounds_toArray, List.set_cons_zero, List.set_cons_succ, i64_w, i32_w]
                                    rfl
                                  refine pure_ (i := 14) (N := some 65) (v := ?_) (a' := ?_) #[true, true, true, true, true, true, true, true, true, true, true, true, true, true, true, true, true, true, false, false, false, false] rfl rfl (any_of HT_.out (by kernel_rfl)) (fun _ _ _ h => h) (Or.inl ⟨by rfl, ?_⟩) ?_ ?_
                                  rotate_left
                                  · intro w'
                                    go_simp
                                    with_reducible rfl
                                  rotate_left
                                  · simp only [Act.put, List.setIfInBounds_toArray, List.set_cons_zero, List.set_cons_succ, i64_w, i32_w]
                                    rfl
                                  refine one_ (i := 18) (N := some 69) #[true, true, true, true, true, true, true, true, true, true, true, true, true, true, true, true, true, true, true, false, false, false] rfl rfl (one_of HT_.out (by kernel_rfl)) (by decide) (fun K hK => ?_)
                                  refine goes_ Try.func21 (by kernel_rfl) rfl #[.pointer (some ⟨g112, 0, none⟩), .int .i64 a1_1] (by rfl) rfl rfl (by (try simp only [List.map_toArray, List.map_cons, List.map_nil]); first | done | rfl | (simp only [List.length_drop, List.length_take]; rfl)) ?_
                                  with_reducible refine (pl_Mark.calls g112 t115 t111 a1_1 t119 t120 w _ ?side1 ?side2 A39.out).mono ?_
                                  (case side1 => repeat (first | (with_reducible first | exact HI112.out | apply PlIs.alloc | apply PlIs.drewN | apply PlIs.drew | apply PlIs.set_0 | refine PlIs.far ?_ NB112_105.out _) | exact HI112.out))
                                  (case side2 => repeat (first | (with_reducible first | exact HB.out | apply below_alloc | apply pw_below_drewN | apply below_drew1 | refine below_set ?_ (PlIs.ge HI112.out) | refine below_set ?_ GE105.out) | exact HB.out))
                                  rintro e w51 ⟨rfl, hi, hb, hk⟩
                                  refine ⟨_, rfl, ?_⟩
                                  have n0_ := Aside0.mk (KeepBut.blk hk (g' := gb105) (o := .cells #[.int .i64 a1_0, .int .i64 a1_1, .int .i64 a1_2] 25 (0, 0)) (by (with_reducible repeat (first | refine blk_drewN ?_ _ | refine blk_drew ?_ | refine blk_alloc ?_ _)); exact BK105.out) NB105_112.out (by simp))
                                  have n1_ := Aside0.mk (hb)
                                  have n2_ := Aside0.mk (hi)
                                  clear BK105
                                  clear HB
                                  clear HI112
                                  have BK105 := n0_
                                  have HB := n1_
                                  have HI112 := n2_
                                  clear n0_ n1_ n2_
                                  (try clear hb)
                                  (try clear hb2)
                                  (try clear hk)
                                  (try clear hi)
                                  refine hK.out _ _ ⟨(blk_cell BK105.out 0).trans rfl, (blk_cell BK105.out 1).trans rfl, (blk_cell BK105.out 2).trans rfl⟩ (fun hHeld => ?_)
                                  clear hK K
                                  refine norm_ (a' := ?_) ?_ ?_
                                  rotate_left
                                  · show Act.put _ (some 69) _ = _
                                    simp only [Act.put, List.setIfInBounds_toArray, List.set_cons_zero, List.set_cons_succ, i64_w, i32_w]
                                    rfl
                                  refine pure_ (i := 19) (N := some 70) (v := ?_) (a' := ?_) #[true, true, true, true, true, true, true, true, true, true, true, true, true, true, true, true, true, true, true, true, false, false] rfl rfl (any_of HT_.out (by kernel_rfl)) (fun _ _ _ h => h) (Or.inl ⟨by rfl, ?_⟩) ?_ ?_
                                  rotate_left
                                  · intro w'
                                    go_simp
                                    with_reducible rfl
                                  rotate_left
                                  · simp only [Act.put, List.setIfInBounds_toArray, List.set_cons_zero, List.set_cons_succ, i64_w, i32_w]
                                    rfl
                                  refine pure_ (i := 20) (N := some 71) (v := ?_) (a' := ?_) #[true, true, true, true, true, true, true, true, true, true, true, true, true, true, true, true, true, true, true, true, true, false] rfl rfl (any_of HT_.out (by kernel_rfl)) (fun _ _ _ h => h) (Or.inl ⟨by rfl, ?_⟩) ?_ ?_
                                  rotate_left
                                  · intro w'
                                    go_simp
                                    with_reducible rfl
                                  rotate_left
                                  · simp only [Act.put, List.setIfInBounds_toArray, List.set_cons_zero, List.set_cons_succ, i64_w, i32_w]
                                    rfl
                                  refine pure_ (i := 21) (N := some 4) (v := ?_) (a' := ?_) #[true, true, true, true, true, true, true, true, true, true, true, true, true, true, true, true, true, true, true, true, true, true] rfl rfl (any_of HT_.out (by kernel_rfl)) (fun _ _ _ h => h) (Or.inl ⟨by rfl, ?_⟩) ?_ ?_
                                  rotate_left
                                  · intro w'
                                    go_simp
                                    with_reducible rfl
                                  rotate_left
                                  · simp only [Act.put, List.setIfInBounds_toArray, List.set_cons_zero, List.set_cons_succ, i64_w, i32_w]
                                    rfl
                                  refine done_ (done_of HT_.out (by kernel_rfl)) ?_
                                  try go_wp2
                                  go_ret
                                  exact ⟨by first | rfl | (simp [errW_none, errW_some] <;> rfl) | (simp [*, errW_none, errW_some] <;> rfl), by repeat (first | (with_reducible first | exact HB.out | apply below_alloc | apply pw_below_drewN | apply below_drew1 | refine below_set ?_ (PlIs.ge HI112.out) | refine below_set ?_ GE105.out) | exact HB.out)⟩
                                · rw [if_neg c41] at H
                                  exact absurd H (by simp)
                              · rw [if_neg c40] at H
                                exact absurd H (by simp)
                            · rw [if_neg c38] at H
                              exact absurd H (by simp)
                          · rw [if_neg c37] at H
                            exact absurd H (by simp)
                        · rw [if_neg c35] at H
                          exact absurd H (by simp)
                      · rw [if_neg c34] at H
                        exact absurd H (by simp)
                    · rw [if_neg c32] at H
                      exact absurd H (by simp)
                  · rw [if_neg c31] at H
                    exact absurd H (by simp)
                · rw [if_neg c29] at H
                  exact absurd H (by simp)
              · rw [if_neg c26] at H
                exact absurd H (by simp)
            · rw [if_neg c25] at H
              exact absurd H (by simp)
    · rw [if_neg c10] at H
      exact absurd H (by simp)


end Go.Proofs.Ytmebogkhdbbbbaa.P

/- Printed parts. -/
import Derived.Test.YtfagpgpeiomnpaaPx0
import Derived.Test.YtfagpgpeiomnpaaCCf
import Derived.Test.YtfagpgpeiomnpaaPx34
import Derived.Test.YtfagpgpeiomnpaaPx12
import Derived.Test.YtfagpgpeiomnpaaPx19
import Derived.Test.YtfagpgpeiomnpaaPx41
namespace Go.Proofs.Ytfagpgpeiomnpaa.P
open Go.RowKit Go.Proofs.YtfagpgpeiomnpaaW.PrintWords Go.Proofs.YtfagpgpeiomnpaaW.PrintLast Go.Proofs.YtfagpgpeiomnpaaW.PrintMore
attribute [local go_sem] max2_int min2_int max_two min_two max_three min_three max_four min_four   -- for this text's walks alone
set_option linter.unusedVariables false
set_option linter.unusedSimpArgs false

/-! ### pascalineref06_Print: function 17 -/
def pascalineref06_Print.l0 : Nat → Int → List Int → ByteArray → Int → Option (ByteArray)
 | 0, _, _, _, _ => none
 | k + 1, x0, x1, x5, x6 => if x6 < (x1.length : Int) then (if 0 ≤ x6 then ((pascalineref06_Line.f k ((x0 + ((4 * ((x6) % 4294967296)) % 4294967296)) % 4294967296) (rd x1 x6)).bind fun t361 => (if x5.size + t361.size ≤ 9223372036854775807 then (if (x5 ++ t361).size + 1 ≤ 9223372036854775807 then (pascalineref06_Print.l0 k x0 x1 ((x5 ++ t361) ++ (⟨#[10]⟩ : ByteArray)) (wrap64 (x6 + 1))) else (none)) else (none))) else (none)) else (some x5)
def pascalineref06_Print.f (k : Nat) (a0 : Int) (l1 : List Int) : Option (ByteArray) := pascalineref06_Print.l0 k a0 l1 (⟨#[]⟩ : ByteArray) 0
theorem pascalineref06_Print.mono_l : ∀ k, (∀ y0 y1 y2 y3, LeO (pascalineref06_Print.l0 k y0 y1 y2 y3) (pascalineref06_Print.l0 (k + 1) y0 y1 y2 y3))
 | 0 => fun _ _ _ _ r h => by simp [pascalineref06_Print.l0] at h
 | k + 1 => by
  have ih0 := pascalineref06_Print.mono_l k
  ·
   intro y0 y1 y2 y3
   unfold pascalineref06_Print.l0
   repeat' first
   | (with_reducible exact ih0 _ _ _ _)
   | (with_reducible exact pascalineref06_Line.mono _ _ _)
   | (with_reducible exact LeO.refl _)
   | (with_reducible exact LeO.none _)
   | (with_reducible refine LeO.ite ?_ ?_)
   | (with_reducible refine LeO.bind ?_ (fun _ => ?_))
   | exact LeO.none _
   | refine LeO.ite ?_ ?_
   | refine LeO.bind ?_ (fun _ => ?_)
theorem pascalineref06_Print.mono : ∀ a0 a1 k, LeO (pascalineref06_Print.f k a0 a1) (pascalineref06_Print.f (k + 1) a0 a1) := by
 intro a0 a1 k
 have ih0 := pascalineref06_Print.mono_l k
 unfold pascalineref06_Print.f
 repeat' first
  | (with_reducible exact ih0 _ _ _ _)
  | (with_reducible exact pascalineref06_Line.mono _ _ _)
  | (with_reducible exact LeO.refl _)
  | (with_reducible exact LeO.none _)
  | (with_reducible refine LeO.ite ?_ ?_)
  | (with_reducible refine LeO.bind ?_ (fun _ => ?_))
  | exact LeO.none _
  | refine LeO.ite ?_ ?_
  | refine LeO.bind ?_ (fun _ => ?_)
set_option maxHeartbeats 8000000 in
set_option maxRecDepth 100000 in
theorem pascalineref06_Print.calls (k : Nat) (a0 : Int) (A1 : Option Addr) (c1 : Nat) (l1 : List Int) (r : ByteArray) (w : World) (hr1 : Kd.C (Kd.int .u32) w A1 l1.length l1) (hc1 : l1.length ≤ c1) (h : pascalineref06_Print.f k a0 l1 = some r) :
 Calls Try.prog 17 #[.int .u32 a0, .slice A1 l1.length c1] w fun e w' => e = .returned (.string r) ∧ Below w.heap.size w w' := by
 have HR1 := mK hr1
 have HC1 := mK hc1
 clear hr1 hc1
 have HB := mK (Below.refl w.heap.size w)
 have H : (pascalineref06_Print.l0 k a0 l1 (⟨#[]⟩ : ByteArray) 0) = some r := h
 clear h
 have H' := mK H
 clear H
 go_enter Try.func17, Try.ntmps17
 go_wp2
 go_loopg [5, 6] k (fun kq v5 v6 w' => ∃ (x5_1 : ByteArray) (x6_1 : Int), v5 = .string x5_1 ∧ v6 = .int .i64 x6_1 ∧ Aside0 (pascalineref06_Print.l0 kq a0 l1 x5_1 x6_1 = some r) ∧ Aside0 (kq ≤ k) ∧ Aside0 (Below w.heap.size w w'))
 case atStart => exact ⟨((⟨#[]⟩ : ByteArray)), (0), (by first | rfl | (simp; done) | (simp [*]; done)), (by first | rfl | (simp; done) | (simp [*]; done)), H', ⟨Nat.le_refl _⟩, ⟨by repeat (first | (with_reducible first | exact HB.out | apply bA | apply bN | apply bD) | exact HB.out)⟩⟩
 case round =>
  clear H'
  (try clear c1)
  obtain ⟨x5_1, x6_1, rfl, rfl, HA, HK1, HB⟩ := hrel
  cases gk with
  | zero => exact absurd HA.out (by simp [pascalineref06_Print.l0])
  | succ k1 =>
   have H := HA.out
   clear HA
   simp only [pascalineref06_Print.l0] at H
   by_cases c3 : x6_1 < (l1.length : Int)
   ·
    rw [if_pos c3] at H
    have c3b0 : decide (x6_1 < (l1.length : Int)) = true := decide_eq_true c3
    clear c3
    by_cases c4 : 0 ≤ x6_1
    ·
     rw [if_pos c4] at H
     have c4b0 : decide (0 ≤ x6_1) = true := decide_eq_true c4
     clear c4
     replace H := oB H
     obtain ⟨t361, A50, H⟩ := H
     replace H : (if x5_1.size + t361.size ≤ 9223372036854775807 then (if (x5_1 ++ t361).size + 1 ≤ 9223372036854775807 then (pascalineref06_Print.l0 k1 a0 l1 ((x5_1 ++ t361) ++ (⟨#[10]⟩ : ByteArray)) (wrap64 (x6_1 + 1))) else (none)) else (none)) = some r := H
     have A5 := mK A50
     clear A50
     by_cases c6 : x5_1.size + t361.size ≤ 9223372036854775807
     ·
      rw [if_pos c6] at H
      have c6b0 := eq_true c6
      have c6b1 : decide (x5_1.size + t361.size ≤ 9223372036854775807) = true := decide_eq_true c6
      try have c6b2 : (9223372036854775807 < x5_1.size + t361.size) = False := eq_false (Nat.not_lt.2 c6)
      try (have c6s2 := c6b2; simp only [ByteArray.size_append, Go.Proofs.Ytfagpgpeiomnpaa.C.ba_lit, List.size_toArray, List.length_cons, List.length_nil, Nat.zero_add, Nat.reduceAdd] at c6s2)
      by_cases c7 : (x5_1 ++ t361).size + 1 ≤ 9223372036854775807
      ·
       rw [if_pos c7] at H
       have c7b0 := eq_true c7
       have c7b1 : decide ((x5_1 ++ t361).size + 1 ≤ 9223372036854775807) = true := decide_eq_true c7
       try have c7b2 : (9223372036854775807 < (x5_1 ++ t361).size + 1) = False := eq_false (Nat.not_lt.2 c7)
       try (have c7s2 := c7b2; simp only [ByteArray.size_append, Go.Proofs.Ytfagpgpeiomnpaa.C.ba_lit, List.size_toArray, List.length_cons, List.length_nil, Nat.zero_add, Nat.reduceAdd] at c7s2)
       have H' := mK H
       clear H
       have p360 : 0 ≤ (x6_1 : Int) := of_decide_eq_true (by first | (with_reducible assumption) | assumption)
       have q360 : x6_1 < (l1.length : Int) := of_decide_eq_true (by first | (with_reducible assumption) | assumption)
       obtain ⟨ad360, e360, hx360_0⟩ := Kd.at_int HR1.out x6_1 p360 q360
       cases e360
       replace hx360_0 := (HB.out.cell (World.block_lt_of_cell? w _ hx360_0)).trans hx360_0
       replace p360 := eq_true p360
       replace q360 := eq_true q360
       go_wp2_with (first | ((with_reducible refine gate_callee (f := 10) rfl ?_); refine goesL_ (some 23) rfl rfl Try.func10 (by kernel_rfl) rfl #[.int .u32 ((a0 + ((4 * ((x6_1) % 4294967296)) % 4294967296)) % 4294967296), .int .u32 (rd l1 x6_1)] rfl (by (try simp only [List.map_toArray, List.map_cons, List.map_nil]); first | done | rfl) ?_; (with_reducible refine (pascalineref06_Line.calls k1 ((a0 + ((4 * ((x6_1) % 4294967296)) % 4294967296)) % 4294967296) (rd l1 x6_1) t361 _ A5.out).mono ?_); rintro e w8 ⟨rfl, hb⟩; refine ⟨_, rfl, ?_⟩; have n0_ := mK (bP (by repeat (first | (with_reducible first | exact HB.out | apply bA | apply bN | apply bD) | exact HB.out)) hb); clear HB; have HB := n0_; clear n0_; (try clear hb)))
       go_roundg k1
       case measure => have := HK1.out; omega
       case rel => exact ⟨((x5_1 ++ t361) ++ (⟨#[10]⟩ : ByteArray)), (wrap64 (x6_1 + 1)), (by first | rfl | (simp; done) | (simp [*]; done)), (by first | rfl | (simp; done) | (simp [*]; done)), H', ⟨by have := HK1.out; omega⟩, ⟨by repeat (first | (with_reducible first | exact HB.out | apply bA | apply bN | apply bD) | exact HB.out)⟩⟩
      ·
       rw [if_neg c7] at H
       exact absurd H (by simp)
     ·
      rw [if_neg c6] at H
      exact absurd H (by simp)
    ·
     rw [if_neg c4] at H
     exact absurd H (by simp)
   ·
    rw [if_neg c3] at H
    have c3b0 : decide (x6_1 < (l1.length : Int)) = false := decide_eq_false c3
    clear c3
    obtain rfl := Option.some.inj H
    go_wp2
    go_ret
    exact ⟨by first | rfl | (simp [errW_none, errW_some] <;> rfl) | (simp [*, errW_none, errW_some] <;> rfl), by repeat (first | (with_reducible first | exact HB.out | apply bA | apply bN | apply bD) | exact HB.out)⟩

end Go.Proofs.Ytfagpgpeiomnpaa.P

namespace Go.Proofs.Ytfagpgpeiomnpaa.P
open Go.RowKit Go.Proofs.YtfagpgpeiomnpaaW.PrintWords Go.Proofs.YtfagpgpeiomnpaaW.PrintLast Go.Proofs.YtfagpgpeiomnpaaW.PrintMore
attribute [local go_sem] max2_int min2_int max_two min_two max_three min_three max_four min_four   -- for this text's walks alone
set_option linter.unusedVariables false
set_option linter.unusedSimpArgs false

/-! ### pascalinelaw06_ListingPrints: function 6 -/
theorem sb_sized : (Try.prog.info? 68).map (·.size) = some 2 := by kernel_rfl
theorem sb_lies : liesAt Try.prog Try.prog.depth 68 (2 / Try.prog.cellsOf 68) 0 68 1 = true := by kernel_rfl
theorem sb_info : (Try.prog.info? 5).map (fun i => (i.zero, i.size, i.bytes)) = some (some (.int .u8 0), 1, 1) := by kernel_rfl
set_option maxHeartbeats 1000000 in
set_option maxRecDepth 100000 in
theorem sb_check_used (b : Nat) (w : World) (h0 : w.cell? ⟨b, 0, none⟩ = some (.pointer (some ⟨b, 0, none⟩))) :
 Calls Try.prog 50 #[.pointer (some ⟨b, 0, none⟩)] w fun e w' => e = .returned (.tuple #[]) ∧ w' = w := by
 obtain ⟨j, hj, _⟩ := Option.map_eq_some_iff.1 sb_sized
 go_enter Try.func50, Try.ntmps50
 go_wp2
 rw [Lib.run_neq_ptr_same w _ Try.underlying65 hj]
 go_wp2
 go_end0
 exact ⟨rfl, rfl⟩
set_option maxHeartbeats 1000000 in
set_option maxRecDepth 100000 in
theorem sb_check_fresh (b : Nat) (w : World) (h0 : w.cell? ⟨b, 0, none⟩ = some (.pointer none)) (hsh : w.shape? b = some (68, 2)) (hfz : w.frozen? ⟨b, 0, none⟩ = false) :
 Calls Try.prog 50 #[.pointer (some ⟨b, 0, none⟩)] w fun e w' => e = .returned (.tuple #[]) ∧ w' = w.setCell ⟨b, 0, none⟩ (.pointer (some ⟨b, 0, none⟩)) := by
 obtain ⟨j, hj, hjs⟩ := Option.map_eq_some_iff.1 sb_sized
 go_enter Try.func50, Try.ntmps50
 go_wp2
 rw [Lib.run_to_unsafe w ⟨b, 0, none⟩ Try.underlying65 Try.underlying98 hj (by rw [hjs]; decide) hsh (Nat.zero_lt_succ 1)]
 simp only [Result.andThen]
 rw [Oper.upon_value]
 go_wp2
 rw [run_callFunc_extern Try.func59 (by kernel_rfl) (by kernel_rfl) (by kernel_rfl) (e := Extern.AbiNoEscape.same) (by kernel_rfl)]
 rw [Lib.run_noEscape]
 simp only [Result.andThen]
 rw [Oper.upon_value]
 go_wp2
 rw [Lib.run_from_unsafe w ⟨b, 0, none⟩ Try.underlying98 Try.underlying65 hj hsh sb_lies]
 simp only [Result.andThen]
 rw [Oper.upon_value]
 go_wp2
 go_end0
 exact ⟨rfl, rfl⟩
theorem sb_check (B b : Nat) (bs : List Value) (w : World) (h : Lib.IsBuilderF 68 5 B b bs w) :
 Calls Try.prog 50 #[.pointer (some ⟨b, 0, none⟩)] w fun e w' => e = .returned (.tuple #[]) ∧ Lib.BuilderAtF 68 5 B b (.pointer (some ⟨b, 0, none⟩)) bs w' ∧ Below B w w' ∧ Lib.OthersKept 5 (some b) w w' := by
 rcases h with h | h
 ·
  refine (sb_check_fresh b w h.cell0 h.shape h.frozen0).mono ?_
  rintro e w' ⟨rfl, rfl⟩
  exact ⟨rfl, h.used _, (Below.refl B w).setCell (p := ⟨b, 0, none⟩) h.1 _, (Lib.OthersKept.refl _ _ w).setCell ⟨b, 0, none⟩ rfl _⟩
 ·
  refine (sb_check_used b w h.cell0).mono ?_
  rintro e w' ⟨rfl, rfl⟩
  exact ⟨rfl, h, Below.refl B _, Lib.OthersKept.refl _ _ _⟩
set_option maxHeartbeats 2000000 in
set_option maxRecDepth 100000 in
theorem sb_byte (B b : Nat) (bs : List Value) (c : Int) (w : World) (h : Lib.IsBuilderF 68 5 B b bs w) (hlen : bs.length + 1 ≤ 140737488355328) (hBw : B ≤ w.heap.size) :
 Calls Try.prog 32 #[.pointer (some ⟨b, 0, none⟩), .int .u8 c] w fun e w' => e = .returned .nilIface ∧ (Lib.BuilderAtF 68 5 B b (.pointer (some ⟨b, 0, none⟩)) (bs ++ [.int .u8 c]) w' ∧ Below B w w' ∧ Lib.OthersKept 5 (some b) w w') := by
 obtain ⟨i0, hi, hz0, hz1, hz2⟩ := info_parts sb_info
 go_enter Try.func32, Try.ntmps32
 go_wp2_with (go_at_call 50; refine (sb_check B b bs _ h).mono ?_)
 rintro e w1 ⟨rfl, h1, hb1, hk1⟩
 obtain ⟨hB, v, hbk, hown, hne⟩ := h1
 have c0 : w1.cell? ⟨b, 0, none⟩ = some (.pointer (some ⟨b, 0, none⟩)) := by rw [Lib.cell_of_heap hbk]; rfl
 have c1 : w1.cell? ⟨b, 1, none⟩ = some v := by rw [Lib.cell_of_heap hbk]; rfl
 go_wp2_with (at_builtin; refine wpList_append_ownF _ rfl _ _ 66 rfl B 5 i0 (.int .u8 0) 1 1 Try.underlying66 hi hz0 hz1 hz2 rfl (by decide) _ _ _ rfl (hown.alloc _) ⟨w1.heap.size, 0, none⟩ 1 1 [.int .u8 c] rfl rfl ?c1 ?c2 ?c3 ?c4 ?c5 ?_)
 case c1 =>
  intro j u hj
  match j, hj with
  | 0, hj => simp at hj; subst hj; simp [Addr.add]
 case c2 => intro u hu; simp at hu; subst hu; rfl
 case c3 => unfold maxLen; omega
 case c4 => omega
 case c5 => have := hb1.size; simp; omega
 intro v' w2 hown' hgrow _
 have hlt : b < w1.heap.size := blk_lt hbk
 have hb2 : w2.heap[b]? = some (.cells #[.pointer (some ⟨b, 0, none⟩), v] 68 (0, 0)) := by
  rw [hgrow.block b (by simp; omega) (fun e => hne e.symm), Lib.alloc_old w1 _ b hlt]
  exact hbk
 have d0 : w2.cell? ⟨b, 0, none⟩ = some (.pointer (some ⟨b, 0, none⟩)) := by rw [Lib.cell_of_heap hb2]; rfl
 have d1 : w2.cell? ⟨b, 1, none⟩ = some v := by rw [Lib.cell_of_heap hb2]; rfl
 have f1 : w2.frozen? ⟨b, 1, none⟩ = false := Lib.frozen_of_heap hb2 1
 obtain ⟨g, cap, rfl⟩ : ∃ g cap, v' = .slice (some ⟨g, 0, none⟩) (bs.length + 1) cap := by
  rcases hown'.2 with ⟨_, h0⟩ | ⟨g, cap, cur, fz, hv, _⟩
  ·
   omega
  ·
   exact ⟨g, cap, hv⟩
 go_wp2
 go_ret
 refine ⟨rfl, ?_, ?_, ((hk1.alloc _).grown hgrow (Lib.ownsRowF_kind (hown.alloc _))).setCell ⟨b, 1, none⟩ rfl _⟩
 ·
  exact Lib.BuilderAtF.put (T := 68) (e := 5) hB hb2 (bs' := bs ++ [.int .u8 c]) (by simpa using hown') (by decide)
 ·
  exact ((hb1.alloc (by have := hb1.size; omega) _).grown hgrow (by have := hb1.size; simp; omega) (fun k hk => (hown.lt k hk).1)).setCell (p := ⟨b, 1, none⟩) hB _
set_option maxHeartbeats 2000000 in
set_option maxRecDepth 100000 in
theorem sb_str (B b : Nat) (bs : List Value) (s : ByteArray) (w : World) (h : Lib.IsBuilderF 68 5 B b bs w) (hlen : bs.length + s.size ≤ 140737488355328) (hBw : B ≤ w.heap.size) :
 Calls Try.prog 31 #[.pointer (some ⟨b, 0, none⟩), .string s] w fun e w' => e = .returned (.tuple #[.int .i64 s.size, .nilIface]) ∧ (Lib.BuilderAtF 68 5 B b (.pointer (some ⟨b, 0, none⟩)) (bs ++ Lib.strCells s) w' ∧ Below B w w' ∧ Lib.OthersKept 5 (some b) w w') := by
 obtain ⟨i0, hi, hz0, hz1, hz2⟩ := info_parts sb_info
 go_enter Try.func31, Try.ntmps31
 go_wp2_with (go_at_call 50; refine (sb_check B b bs _ h).mono ?_)
 rintro e w1 ⟨rfl, h1, hb1, hk1⟩
 obtain ⟨hB, v, hbk, hown, hne⟩ := h1
 have c0 : w1.cell? ⟨b, 0, none⟩ = some (.pointer (some ⟨b, 0, none⟩)) := by rw [Lib.cell_of_heap hbk]; rfl
 have c1 : w1.cell? ⟨b, 1, none⟩ = some v := by rw [Lib.cell_of_heap hbk]; rfl
 go_wp2_with (at_builtin; refine Lib.wpList_append_own_stringF _ rfl _ _ 66 9 rfl B 5 i0 Try.underlying66 Try.underlying9 hi hz0 hz1 hz2 _ _ _ rfl hown s rfl ?c3 ?c4 ?c5 ?_)
 case c3 => unfold maxLen; omega
 case c4 => omega
 case c5 => have := hb1.size; omega
 intro v' w2 hown' hgrow _
 have hlt : b < w1.heap.size := blk_lt hbk
 have hb2 : w2.heap[b]? = some (.cells #[.pointer (some ⟨b, 0, none⟩), v] 68 (0, 0)) := by
  rw [hgrow.block b hlt (fun e => hne e.symm)]
  exact hbk
 have d0 : w2.cell? ⟨b, 0, none⟩ = some (.pointer (some ⟨b, 0, none⟩)) := by rw [Lib.cell_of_heap hb2]; rfl
 have d1 : w2.cell? ⟨b, 1, none⟩ = some v := by rw [Lib.cell_of_heap hb2]; rfl
 have f1 : w2.frozen? ⟨b, 1, none⟩ = false := Lib.frozen_of_heap hb2 1
 obtain ⟨ao, n', cap, rfl⟩ : ∃ ao n' cap, v' = .slice ao n' cap := by
  rcases hown'.2 with ⟨hv, _⟩ | ⟨g, cap, cur, fz, hv, _⟩
  ·
   exact ⟨_, _, _, hv⟩
  ·
   exact ⟨_, _, _, hv⟩
 go_wp2
 go_ret2
 refine ⟨rfl, ?_, ?_, (hk1.grown hgrow (Lib.ownsRowF_kind hown)).setCell ⟨b, 1, none⟩ rfl _⟩
 ·
  exact Lib.BuilderAtF.put (T := 68) (e := 5) hB hb2 (bs' := bs ++ Lib.strCells s) (by simpa [Lib.strCells_length] using hown') (by decide)
 ·
  exact (hb1.grown hgrow (by have := hb1.size; omega) (fun k hk => (hown.lt k hk).1)).setCell (p := ⟨b, 1, none⟩) hB _

/-- A line of a listing, short. -/
abbrev LS := { x : ByteArray // x.size ≤ 1000 }
/-- What a round's body keeps: what lay below n₀, and the iterator's two boxes. -/
def KpL (n₀ BL BA : Nat) (W W' : World) : Prop := Below n₀ W W' ∧ (∀ o, W.heap[BL]? = some o → W'.heap[BL]? = some o) ∧ (∀ o, W.heap[BA]? = some o → W'.heap[BA]? = some o)
theorem KpL.refl (n₀ BL BA : Nat) (W : World) : KpL n₀ BL BA W W := ⟨Below.refl _ _, fun _ h => h, fun _ h => h⟩
theorem KpL.trans {n₀ BL BA : Nat} {A B C : World} (h : KpL n₀ BL BA A B) (k : KpL n₀ BL BA B C) : KpL n₀ BL BA A C := ⟨h.1.trans k.1, fun o e => k.2.1 o (h.2.1 o e), fun o e => k.2.2 o (h.2.2 o e)⟩
def lp_at (a0 : Int) (j : Nat) : Int := (a0 + 4 * (j : Int)) % 4294967296
theorem lp_grown {w w' : World} (h : Below w.heap.size w w') : w.grownBy w' none := ⟨h.os, h.tape, h.output, h.size, fun k hk _ => h.block k hk⟩
theorem lp_kp {n₀ BL BA : Nat} {w w' : World} (h : Below w.heap.size w w') (hn : n₀ ≤ w.heap.size) : KpL n₀ BL BA w w' := ⟨h.mono hn, fun o e => (h.block BL (blk_lt e)).trans e, fun o e => (h.block BA (blk_lt e)).trans e⟩
/-- The lines of words from an address on. -/
def lp_lines (k : Nat) (a0 : Int) : List Int → Nat → Option (List ByteArray)
 | [], _ => some []
 | x :: t, j => (listing_Line.f k (lp_at a0 j) x).bind fun s => if s.size ≤ 1000 then (lp_lines k a0 t (j + 1)).bind fun L => some (s :: L) else none
theorem lp_len (k : Nat) (a0 : Int) : ∀ (l : List Int) (j : Nat) (L : List ByteArray), lp_lines k a0 l j = some L → L.length = l.length
 | [], _, L, h => by simp [lp_lines] at h; subst h; rfl
 | x :: t, j, L, h => by
  unfold lp_lines at h
  obtain ⟨s, _, h⟩ := oB h
  split at h
  ·
   obtain ⟨L2, h2, h⟩ := oB h
   injection h with h
   subst h
   simp [lp_len k a0 t (j + 1) L2 h2]
  ·
   cases h
theorem lp_get (k : Nat) (a0 : Int) : ∀ (l : List Int) (j : Nat) (L : List ByteArray), lp_lines k a0 l j = some L → ∀ (i : Nat) (hi : i < l.length), ∃ s, listing_Line.f k (lp_at a0 (j + i)) l[i] = some s ∧ s.size ≤ 1000 ∧ L[i]? = some s
 | [], _, L, h, i, hi => by simp at hi
 | x :: t, j, L, h, i, hi => by
  unfold lp_lines at h
  obtain ⟨s, hs, h⟩ := oB h
  split at h
  ·
   rename_i hsz
   obtain ⟨L2, h2, h⟩ := oB h
   injection h with h
   subst h
   cases i with
   | zero => exact ⟨s, hs, hsz, rfl⟩
   | succ i =>
    obtain ⟨s2, e1, e2, e3⟩ := lp_get k a0 t (j + 1) L2 h2 i (by simpa using hi)
    refine ⟨s2, ?_, e2, by simpa using e3⟩
    rw [show j + (i + 1) = j + 1 + i from by omega]
    simpa using e1
  ·
   cases h
section
attribute [local go_sem] Oper.semAt_some
set_option maxRecDepth 100000 in
set_option maxHeartbeats 2000000 in
theorem lp_iter (n k : Nat) (hn : 1 ≤ n) (a0 : Int) (A1 : Option Addr) (c1 : Nat) (l1 : List Int) (L : List ByteArray) (w0 w : World) (BL BA : Nat) (HC : Aside0 (Kd.C (Kd.int .u32) w0 A1 l1.length l1)) (hlen : l1.length ≤ 1000) (HL : Aside0 (lp_lines k a0 l1 0 = some L))
 (hB : Below w0.heap.size w0 w) (hbl : w.heap[BL]? = some (.cells #[.slice A1 l1.length c1] 30 (0, 0))) (hba : w.heap[BA]? = some (.cells #[.int .u32 a0] 22 (0, 0))) :
 SeqStopsK Fence.wide n Try.prog 34 #[.pointer (some ⟨BL, 0, none⟩), .pointer (some ⟨BA, 0, none⟩)] (fun x : LS => #[.string x.1]) (KpL w0.heap.size BL BA) (fun xs => xs.map (·.1) = L) (fun _ => True) l1.length w := fun l J Jx W hW hJ hJx hY h0 => by
 refine callsIn_of_wp Try.func34 rfl trivial ?_ rfl
 simp only [Try.ntmps34, List.size_toArray, List.length_cons, List.length_nil, Nat.reduceAdd, Nat.reduceSub, Array.replicate_succ, Array.replicate_zero, List.push_toArray, List.append_toArray, List.nil_append, List.cons_append]
 have HBL := mK ((hW.block BL (blk_lt hbl)).trans hbl)
 have HBA := mK ((hW.block BA (blk_lt hba)).trans hba)
 have HW := mK (hB.trans (hW.mono hB.size))
 have cbl : W.cell? ⟨BL, 0, none⟩ = some (.slice A1 l1.length c1) := kC HBL.out 0
 clear hbl hba hB hW
 gi_wp2
 gi_loopw [8] (fun v wr => ∃ (i : Nat) (pre : List LS), v = .int .i64 i ∧ i ≤ l1.length ∧ pre.map (·.1) = L.take i ∧ pre.length = i ∧ J pre wr ∧ KpL w0.heap.size BL BA W wr) (fun v _ => l1.length - (intOf v).toNat)
 case atStart => exact ⟨0, [], rfl, Nat.zero_le _, rfl, rfl, h0, KpL.refl _ _ _ _⟩
 case round =>
  obtain ⟨i, pre, rfl, hi, hpre, hpl, hJs, hk⟩ := hrel
  have HBL2 := mK (hk.2.1 _ HBL.out)
  have HBA2 := mK (hk.2.2 _ HBA.out)
  have HW2 := mK (HW.out.trans hk.1)
  have HK := mK hk
  have HPre := mK hpre
  have HPl := mK hpl
  clear hk hpre hpl cbl
  by_cases hlt : i < l1.length
  ·
   obtain ⟨s, hs, hsz, hget⟩ := lp_get k a0 l1 0 L HL.out i hlt
   have HLn := mK hs
   have HGet := mK hget
   have HSz := mK hsz
   have HJ := mK hJs
   obtain ⟨ad, e, hx⟩ := Kd.at_int HC.out (i : Int) (by omega) (by omega)
   cases e
   have cba : wr.cell? ⟨BA, 0, none⟩ = some (.int .u32 a0) := kC HBA2.out 0
   rw [Int.toNat_natCast, show rd l1 (i : Int) = l1[i] from by unfold rd; simp [hlt]] at hx
   have hx2 := kW HW2.out hx
   have p1 : (0 ≤ (i : Int)) = True := eq_true (by omega)
   have p3 : ((i : Int) < (l1.length : Int)) = True := eq_true (by omega)
   have p4 : decide ((i : Int) < (l1.length : Int)) = true := decide_eq_true (by omega)
   have p5 : decide (i < l1.length) = true := decide_eq_true hlt
   have p7 : (i < l1.length) = True := eq_true hlt
   have hw1 : wrap64 ((i : Int) + 1) = ((i + 1 : Nat) : Int) := by unfold wrap64; omega
   have HLt := mK hlt
   have HY := mK hY
   rw [Nat.zero_add] at hs
   replace HLn := mK (show listing_Line.f k ((a0 + 4 * (i : Int)) % 4294967296) l1[i] = some s from hs)
   generalize l1[i] = x at HLn hx2 hs hx
   clear hs hx hsz hget hJs hlt hY
   gi_wp2_with (first | (refine ⟨trivial, ?_⟩; gi_at_call 9; refine (callsIn_wide.2 (listing_Line.calls k _ _ s _ HLn.out)).mono ?_; rintro e w3 ⟨rfl, hb⟩; obtain ⟨fn, tmps, assign, body, hy, hR⟩ := HY.out pre ⟨s, HSz.out⟩ w3 (hJ _ _ _ none HJ.out (lp_grown hb) (fun r e => by cases e)) (by rw [HPl.out]; exact HLt.out); dsimp only at hy; have HK3 := mK (HK.out.trans (lp_kp (BL := BL) (BA := BA) hb HW2.out.size)); clear hb))
   refine hR.mono ?_
   rintro e W3 (⟨rfl, hJ3, hk3⟩ | ⟨rfl, hJx3⟩)
   ·
    gi_wp2
    go_roundw
    case rel => exact ⟨i + 1, pre ++ [⟨s, HSz.out⟩], by first | rfl | (rw [← hw1]) | simp, by have := HLt.out; omega, by rw [List.map_append, HPre.out, List.take_add_one, HGet.out]; rfl, by rw [List.length_append, HPl.out]; rfl, hJ3, HK3.out.trans hk3⟩
    case measure => have := HLt.out; simp [intOf]; omega
   ·
    gi_wp2
    refine bodyPost_ret (results_none rfl _ _ _) rfl ?_
    exact ⟨⟨_, rfl⟩, .inr ⟨_, trivial, hJx3⟩⟩
  ·
   have e : i = l1.length := by omega
   subst e
   have hp := HPre.out
   rw [List.take_of_length_le (by rw [lp_len k a0 l1 0 L HL.out]; exact Nat.le_refl _)] at hp
   have HPre2 := mK hp
   clear hp
   gi_wp2
   go_end0
   exact ⟨⟨_, rfl⟩, .inl ⟨pre, HPre2.out, hJs⟩⟩
theorem lp_Lines (a0 : Int) (v : Value) (w : World) (hv : ∃ A n c, v = .slice A n c) :
 Calls Try.prog 18 #[.int .u32 a0, v] w fun e w' => e = .returned (.func (.func 34) #[] #[.pointer (some ⟨w.heap.size + 1, 0, none⟩), .pointer (some ⟨w.heap.size, 0, none⟩)]) ∧ w' = (w.alloc (.cells #[.int .u32 a0] 22)).alloc (.cells #[v] 30) := by
 obtain ⟨A, n, c, rfl⟩ := hv
 go_enter Try.func18, Try.ntmps18
 go_wp2
 go_ret
 exact ⟨rfl, rfl⟩
def lp_bytes (L : List ByteArray) : List UInt8 := L.flatMap (fun s => s.data.toList ++ [10])
theorem lp_bytes_snoc (L : List ByteArray) (s : ByteArray) : lp_bytes (L ++ [s]) = lp_bytes L ++ s.data.toList ++ [10] := by unfold lp_bytes; simp
def lp_text (L : List ByteArray) : ByteArray := ⟨(lp_bytes L).toArray⟩
theorem sb_grown {T e B b : Nat} {bs : List Value} {w w' : World} {row : Option Nat} (h : Lib.IsBuilderF T e B b bs w) (hg : w.grownBy w' row) (hr : ∀ r, row = some r → ∃ o : Obj, w.heap[r]? = some o ∧ o.isCells = false) : Lib.IsBuilderF T e B b bs w' := by
 have ne : ∀ k c t f, w.heap[k]? = some (.cells c t f) → some k ≠ row := by
  intro k c t f hk e
  obtain ⟨o, ho, hc⟩ := hr k e.symm
  rw [hk] at ho
  cases ho
  cases hc
 have one : ∀ p, Lib.BuilderAtF T e B b p bs w → Lib.BuilderAtF T e B b p bs w' := by
  intro p ⟨hB, v, hbk, ⟨hl, hown⟩, hne⟩
  refine ⟨hB, v, (hg.block b (blk_lt hbk) (ne _ _ _ _ hbk)).trans hbk, ⟨hl, ?_⟩, hne⟩
  rcases hown with hn | ⟨g, cap, cur, fz, hv, hg2, hgk, rest⟩
  ·
   exact .inl hn
  ·
   exact .inr ⟨g, cap, cur, fz, hv, hg2, (hg.block g (blk_lt hgk) (ne _ _ _ _ hgk)).trans hgk, rest⟩
 rcases h with h | h
 ·
  exact .inl (one _ h)
 ·
  exact .inr (one _ h)
theorem sb_below {T e B b : Nat} {bs : List Value} {w w' : World} (h : Lib.IsBuilderF T e B b bs w) (hb : Below w.heap.size w w') : Lib.IsBuilderF T e B b bs w' := by
 have one : ∀ p, Lib.BuilderAtF T e B b p bs w → Lib.BuilderAtF T e B b p bs w' := by
  intro p ⟨hB, v, hbk, ⟨hl, hown⟩, hne⟩
  refine ⟨hB, v, (hb.block b (blk_lt hbk)).trans hbk, ⟨hl, ?_⟩, hne⟩
  rcases hown with hn | ⟨g, cap, cur, fz, hv, hg, hgk, rest⟩
  ·
   exact .inl hn
  ·
   exact .inr ⟨g, cap, cur, fz, hv, hg, (hb.block g (blk_lt hgk)).trans hgk, rest⟩
 rcases h with h | h
 ·
  exact .inl (one _ h)
 ·
  exact .inr (one _ h)
theorem sb_blk {T e B b : Nat} {bs : List Value} {w : World} (h : Lib.IsBuilderF T e B b bs w) : ∃ cs, w.heap[b]? = some (.cells cs T (0, 0)) := by
 rcases h with ⟨_, v, hbk, _⟩ | ⟨_, v, hbk, _⟩
 ·
  exact ⟨_, hbk⟩
 ·
  exact ⟨_, hbk⟩
theorem blk_grown2 {w w' : World} {g : Nat} {cs : Array Value} {t : TypeId} {f : Nat × Nat} {row : Option Nat} (h : w.heap[g]? = some (.cells cs t f)) (hg : w.grownBy w' row) (hr : ∀ r, row = some r → ∃ o : Obj, w.heap[r]? = some o ∧ o.isCells = false) : w'.heap[g]? = some (.cells cs t f) := by
 refine (hg.block g (blk_lt h) (fun e => ?_)).trans h
 obtain ⟨o, ho, hc⟩ := hr g e.symm
 rw [h] at ho
 cases ho
 cases hc
theorem sb_keeps {T e : TypeId} {b : Nat} {cs : Array Value} {w w' : World} (h : Lib.OthersKept e (some b) w w') (hb : w.heap[b]? = some (.cells cs T (0, 0))) (hs : w.heap.size ≤ w'.heap.size) : KeepsOthers w w' := by
 refine ⟨hs, fun k o hk ho => h k o hk (fun he => ?_) (fun c fz he => ?_)⟩
 ·
  injection he with he
  subst he
  rw [hb] at hk
  cases hk
  cases ho
 ·
  subst he; cases ho
theorem sb_cellsKept {T e : TypeId} {b g : Nat} {cs : Array Value} {w w' : World} (h : Lib.OthersKept e (some b) w w') (hg : w.heap[g]? = some (.cells cs T (0, 0))) (hne : g ≠ b) (ht : T ≠ e) : w'.heap[g]? = some (.cells cs T (0, 0)) :=
 h g _ hg (fun he => hne (by injection he)) (fun c fz he => ht (by injection he))
theorem sb_cells (s : ByteArray) : Lib.strCells s = Lib.byteCells s.data.toList := by
 unfold Lib.strCells Lib.byteCells
 rfl
theorem lp_start (w : World) (OA OL : Obj) : (((w.alloc (.cells #[.pointer none, .slice none 0 0] 68)).alloc OA).alloc OL).heap[w.heap.size + 1]? = some OA ∧ (((w.alloc (.cells #[.pointer none, .slice none 0 0] 68)).alloc OA).alloc OL).heap[w.heap.size + 1 + 1]? = some OL ∧
 Lib.IsBuilderF 68 5 w.heap.size w.heap.size [] (((w.alloc (.cells #[.pointer none, .slice none 0 0] 68)).alloc OA).alloc OL) ∧ Below w.heap.size w (((w.alloc (.cells #[.pointer none, .slice none 0 0] 68)).alloc OA).alloc OL) := by
 have e : (w.alloc (.cells #[.pointer none, .slice none 0 0] 68)).heap.size = w.heap.size + 1 := by simp
 have h1 := blk_new (w.alloc (.cells #[.pointer none, .slice none 0 0] 68)) OA
 rw [e] at h1
 have h2 := blk_new ((w.alloc (.cells #[.pointer none, .slice none 0 0] 68)).alloc OA) OL
 have e2 : ((w.alloc (.cells #[.pointer none, .slice none 0 0] 68)).alloc OA).heap.size = w.heap.size + 1 + 1 := by simp
 rw [e2] at h2
 refine ⟨kA h1 _, h2, ?_, bA (bA (bA (Below.refl _ _) _) _) _⟩
 exact sb_below (Lib.IsBuilderF.of (Lib.fresh_isBuilder 68 5 w)) (bA (bA (Below.refl _ _) _) _)
theorem lp_kb {n₀ BL BA : Nat} {W0 : World} (hl : BL < W0.heap.size) (ha : BA < W0.heap.size) (hn : n₀ ≤ W0.heap.size) (W : World) (l : Nat) (o o' : Obj) (h0 : W0.heap.size ≤ l) (h : W.heap[l]? = some o) (hc : o.isCells = false) (hw : o.isWalk = false) : KpL n₀ BL BA W (W.putObj l o') :=
 ⟨belowK_b hn W l o o' h0 h hc hw, fun q e => (World.putObj_heap_other (by omega)).trans e, fun q e => (World.putObj_heap_other (by omega)).trans e⟩
theorem lp_room {l : List UInt8} {x : ByteArray} {n : Nat} (h : l.length ≤ 1001 * n) (hx : x.size ≤ 1000) (hn : n ≤ 1000) : (Lib.byteCells l).length + x.size ≤ 140737488355328 := by
 have : (Lib.byteCells l).length = l.length := by simp [Lib.byteCells]
 omega
theorem lp_room2 {l : List UInt8} {x : ByteArray} {n : Nat} (h : l.length ≤ 1001 * n) (hx : x.size ≤ 1000) (hn : n ≤ 1000) : (Lib.byteCells l ++ Lib.strCells x).length + 1 ≤ 140737488355328 := by
 have h1 : (Lib.byteCells l).length = l.length := by simp [Lib.byteCells]
 rw [List.length_append, h1, Lib.strCells_length]
 omega
set_option maxRecDepth 100000 in
set_option maxHeartbeats 2000000 in
theorem lp_Print (k : Nat) (a0 : Int) (A1 : Option Addr) (c1 : Nat) (l1 : List Int) (L : List ByteArray) (w : World) (HC : Aside0 (Kd.C (Kd.int .u32) w A1 l1.length l1)) (hlen : l1.length ≤ 1000) (HL : Aside0 (lp_lines k a0 l1 0 = some L)) :
 Calls Try.prog 16 #[.int .u32 a0, .slice A1 l1.length c1] w fun e w' => e = .returned (.string (lp_text L)) ∧ Below w.heap.size w w' := by
 refine (callsIn_wide (n := 5)).1 ?_
 refine callsIn_of_wp_marks Try.func16 rfl trivial ?_ rfl
 simp only [Try.ntmps16, List.size_toArray, List.length_cons, List.length_nil, Nat.reduceAdd, Nat.reduceSub, Array.replicate_succ, Array.replicate_zero, List.push_toArray, List.append_toArray, List.nil_append, List.cons_append]
 gi_wp2_with (first | (refine ⟨trivial, ?_⟩; gi_at_call 18; refine (callsIn_wide.2 (lp_Lines a0 _ _ ⟨_, _, _, rfl⟩)).mono ?_; rintro e w3 ⟨rfl, rfl⟩))
 obtain ⟨g1, g2, g3, g4⟩ := lp_start w (.cells #[.int .u32 a0] 22) (.cells #[.slice A1 l1.length c1] 30)
 obtain ⟨W0, hW0⟩ : ∃ W0, (((w.alloc (.cells #[.pointer none, .slice none 0 0] 68)).alloc (.cells #[.int .u32 a0] 22)).alloc (.cells #[.slice A1 l1.length c1] 30)) = W0 := ⟨_, rfl⟩
 rw [hW0] at g1 g2 g3 g4 ⊢
 clear hW0
 have hlt := blk_lt g2
 have hlt1 := blk_lt g1
 refine wpIn_rangeFunc_ownF rfl (by omega) (gf := 34) (lb := #[.pointer (some ⟨w.heap.size + 1 + 1, 0, none⟩), .pointer (some ⟨w.heap.size + 1, 0, none⟩)]) rfl trivial (enters_of Try.func34 (by kernel_rfl) rfl)
  (lp_iter (5 - 1) k (by omega) a0 A1 c1 l1 L w W0 (w.heap.size + 1 + 1) (w.heap.size + 1) HC hlen HL g4 g2 g1) (fun h k => KpL.trans h k) (lp_kb hlt hlt1 (by omega)) (Below.refl _ _) (fun _ => rfl)
  (fun pre W => (Lib.IsBuilderF 68 5 w.heap.size w.heap.size (Lib.byteCells (lp_bytes (pre.map (·.1)))) W ∧ W.heap[w.heap.size + 1 + 1]? = some (.cells #[.slice A1 l1.length c1] 30 (0, 0)) ∧ W.heap[w.heap.size + 1]? = some (.cells #[.int .u32 a0] 22 (0, 0)) ∧ (lp_bytes (pre.map (·.1))).length ≤ 1001 * pre.length) ∧ Below w.heap.size w W)
  (fun _ _ _ => False)
  (OwnFrom.and (by intro s A B row hs hg hr; exact ⟨sb_grown hs.1 hg (fun r e => (hr r e).2), blk_grown2 hs.2.1 hg (fun r e => (hr r e).2), blk_grown2 hs.2.2.1 hg (fun r e => (hr r e).2), hs.2.2.2⟩) (ownFrom_below (Nat.le_refl _) (by omega)))
  (fun _ _ _ _ _ hs _ _ => hs)
  ⟨⟨g3, g2, g1, by simp [lp_bytes]⟩, g4⟩
  (fun x => { tmps := #[.int .u32 a0, .slice A1 l1.length c1, undef, undef, .string ⟨#[]⟩, .pointer (some ⟨w.heap.size, 0, none⟩), .string x.1, .int .u32 a0, .slice A1 l1.length c1, .func (.func 34) #[] #[.pointer (some ⟨w.heap.size + 1 + 1, 0, none⟩), .pointer (some ⟨w.heap.size + 1, 0, none⟩)], .string x.1, undef, undef, undef, undef], defers := [] }) ?assign ?body ?done ?stop
 case assign =>
  intro l x W K hK
  gi_wp2
  exact hK
 case body =>
  rintro l pre x W ⟨⟨hbd, hl2, ha2, hsz⟩, hB⟩ hlen2
  obtain ⟨x, hx⟩ := x
  have HSZ := mK hsz; have HB := mK hB; have HBD := mK hbd; have HL2 := mK hl2; have HA2 := mK ha2; have HX := mK hx; have HLN := mK hlen2
  clear hsz hB hbd hl2 ha2 hlen2
  have hd : 1 ≤ 5 - 1 - 1 := by omega
  gi_wp2_with (first | (refine ⟨trivial, ?_⟩; gi_at_call 31; refine (CallsIn.inRound l (callsIn_wide.2 (sb_str w.heap.size w.heap.size _ x _ HBD.out (lp_room HSZ.out HX.out (Nat.le_trans (Nat.le_of_lt HLN.out) hlen)) HB.out.size))).mono ?_; rintro e w5 ⟨rfl, hb1, hb2, hb3⟩; have H1 := mK hb1; have H2 := mK hb2; have H3 := mK hb3; clear hb1 hb2 hb3) | (refine ⟨trivial, ?_⟩; gi_at_call 32; refine (CallsIn.inRound l (callsIn_wide.2 (sb_byte w.heap.size w.heap.size _ 10 _ (.inr H1.out) (lp_room2 HSZ.out HX.out (Nat.le_trans (Nat.le_of_lt HLN.out) hlen)) (HB.out.trans H2.out).size))).mono ?_; rintro e w6 ⟨rfl, hb1, hb2, hb3⟩; have H4 := mK hb1; have H5 := mK hb2; have H6 := mK hb3; clear hb1 hb2 hb3))
  obtain ⟨cs, hcs⟩ := sb_blk HBD.out
  have ho := Lib.OthersKept.trans H3.out H6.out
  have hbb := H2.out.trans H5.out
  refine ⟨sb_keeps ho hcs hbb.size, ⟨hbb, fun o e => ?_, fun o e => ?_⟩, ⟨⟨?_, sb_cellsKept ho HL2.out (by omega) (by decide), sb_cellsKept ho HA2.out (by omega) (by decide), ?_⟩, HB.out.trans hbb⟩⟩
  ·
   rw [HL2.out] at e; cases e; exact sb_cellsKept ho HL2.out (by omega) (by decide)
  ·
   rw [HA2.out] at e; cases e; exact sb_cellsKept ho HA2.out (by omega) (by decide)
  ·
   have := H4.out
   rw [sb_cells] at this
   rw [List.map_append, List.map_cons, List.map_nil, lp_bytes_snoc, Lib.byteCells_append, Lib.byteCells_append]
   exact .inr this
  ·
   have h1 := HSZ.out
   have h2 := HX.out
   have h3 : x.data.toList.length = x.size := data_length _
   rw [List.map_append, List.map_cons, List.map_nil, lp_bytes_snoc, List.length_append, List.length_append, List.length_append, h3]
   simp only [List.length_cons, List.length_nil]
   omega
 case done =>
  rintro D xs W hD hS ⟨⟨hbd, hl2, ha2, hsz⟩, hB⟩ hK
  have HBD := mK hbd; have HB := mK hB; have HS := mK hS; have HK := mK hK
  clear hbd hB hS hK hl2 ha2 hsz
  gi_wp2_with (first | (refine ⟨trivial, ?_⟩; gi_at_call 33; refine (callsIn_wide.2 (Go.Proofs.Ytfagpgpeiomnpaa.C.sh_Builder_String_any_k w.heap.size w.heap.size _ _ HBD.out HB.out.size)).mono ?_; rintro e w7 ⟨rfl, _, hb2, hb3⟩; have H2 := mK hb2; have H3 := mK hb3; clear hb2 hb3))
  obtain ⟨cs, hcs⟩ := sb_blk HBD.out
  have hK7 := (sb_keeps H3.out hcs H2.out.size).same D _ HK.out rfl
  refine ⟨by simp, .inl ⟨_, _, rfl, run_takeDeferred hK7, ?_⟩⟩
  have hq : xs.unattach = L := HS.out
  subst hq
  refine ⟨_, results_tmp rfl _ _ _, rfl, (HB.out.trans H2.out).trans (belowK_b (w := w) (Nat.le_refl _) _ D _ _ (by omega) hK7 rfl rfl)⟩
 case stop =>
  rintro D c pre W _ _ h _
  exact h.elim
theorem fn_eql {P : Program} {t : TypeId} {a b : Array TypeId} {c : Bool} (hp : P.underlying t = some (.func a b c)) (f : Fn) (xs ys : Array Value) (w : World) : (binOp .eql t (.func f xs ys) .nilFunc).run P w = .ok (.bool false) w := by
 have h : ∀ d : Nat, (Op.equalIn (d + 1) t (.func f xs ys) .nilFunc).run P w = .ok false w := fun d => by
  simp [Op.equalIn, run_underlying hp]
 simp only [binOp]
 simp [Op.equal, Op.maxDepth, h 9999]
def lpK : Nat := 600000
def pascalinelaw06_ListingPrints.f (a0 : Int) (l1 : List Int) : Option Bool :=
 if pascalinelaw06_awake.f lpK = some true then
  (if 500 < l1.length then some true else (lp_lines lpK a0 l1 0).bind fun L =>
   if pascalineref06_Print.f lpK a0 l1 = some (lp_text L) then (listing_Read.f lpK (lp_text L)).bind fun q =>
    if q.2.2.1 = 0 ∧ q.2.2.2 = 0 ∧ (q.1 = a0 ∨ (l1.length = 0 ∧ q.1 = 0)) then (if pascalineref01_Words.f lpK q.2.1 l1 = some true then some true else none) else none
   else none)
 else none
theorem lp_text_snoc (L : List ByteArray) (s : ByteArray) : lp_text (L ++ [s]) = lp_text L ++ s ++ (⟨#[10]⟩ : ByteArray) := by
 unfold lp_text
 rw [lp_bytes_snoc]
 apply ByteArray.ext
 apply Array.ext'
 simp [ByteArray.data_append]
theorem lp_text_size (L : List ByteArray) : (lp_text L).size = (lp_bytes L).length := by unfold lp_text; simp [ByteArray.size]
theorem lp_fact (a0 : Int) (l1 : List Int) (r : Bool) (h : pascalinelaw06_ListingPrints.f a0 l1 = some r) : r = true ∧ pascalinelaw06_awake.f lpK = some true ∧ (500 < l1.length ∨ (l1.length ≤ 500 ∧ ∃ L at_ ws, lp_lines lpK a0 l1 0 = some L ∧ pascalineref06_Print.f lpK a0 l1 = some (lp_text L) ∧ listing_Read.f lpK (lp_text L) = some (at_, ws, 0, 0) ∧ (at_ = a0 ∨ (l1.length = 0 ∧ at_ = 0)) ∧ pascalineref01_Words.f lpK ws l1 = some true)) := by
 unfold pascalinelaw06_ListingPrints.f at h
 split at h
 ·
  rename_i h1
  split at h
  ·
   rename_i h2
   injection h with h
   exact ⟨h.symm, h1, .inl h2⟩
  ·
   rename_i h2
   obtain ⟨L, hL, h⟩ := oB h
   split at h
   ·
    rename_i h3
    obtain ⟨⟨at_, ws, n, e⟩, hq, h⟩ := oB h
    dsimp only at h
    split at h
    ·
     rename_i h4
     split at h
     ·
      rename_i h5
      injection h with h
      obtain ⟨e1, e2, e3⟩ := h4
      subst e1 e2
      exact ⟨h.symm, h1, .inr ⟨by omega, L, at_, ws, hL, h3, hq, e3, h5⟩⟩
     ·
      cases h
    ·
     cases h
   ·
    cases h
 ·
  cases h
theorem lp_start2 (w : World) (O1 O2 O3 : Obj) : (((w.alloc O1).alloc O2).alloc O3).heap[w.heap.size]? = some O1 ∧ (((w.alloc O1).alloc O2).alloc O3).heap[w.heap.size + 1]? = some O2 ∧ (((w.alloc O1).alloc O2).alloc O3).heap[w.heap.size + 1 + 1]? = some O3 ∧ Below w.heap.size w (((w.alloc O1).alloc O2).alloc O3) := by
 have e1 : (w.alloc O1).heap.size = w.heap.size + 1 := by simp
 have h1 := blk_new (w.alloc O1) O2
 rw [e1] at h1
 have h2 := blk_new ((w.alloc O1).alloc O2) O3
 have e2 : ((w.alloc O1).alloc O2).heap.size = w.heap.size + 1 + 1 := by simp
 rw [e2] at h2
 exact ⟨kA (kA (blk_new w O1) _) _, kA h1 _, h2, bA (bA (bA (Below.refl _ _) _) _) _⟩
set_option maxRecDepth 100000 in
set_option maxHeartbeats 4000000 in
theorem pascalinelaw06_ListingPrints.calls (a0 : Int) (A1 : Option Addr) (c1 : Nat) (l1 : List Int) (r : Bool) (w : World) (hr1 : Kd.C (Kd.int .u32) w A1 l1.length l1) (hc1 : l1.length ≤ c1) (h : pascalinelaw06_ListingPrints.f a0 l1 = some r) :
 Calls Try.prog 6 #[.int .u32 a0, .slice A1 l1.length c1] w fun e w' => e = .returned (.bool r) ∧ Below w.heap.size w w' := by
 obtain ⟨rfl, hA, hF⟩ := lp_fact a0 l1 r h
 have HC := mK hr1; have HA := mK hA; have HC1 := mK hc1
 clear hr1 hA hc1 h
 refine (callsIn_wide (n := 5)).1 ?_
 refine callsIn_of_wp_marks Try.func6 rfl trivial ?_ rfl
 simp only [Try.ntmps6, List.size_toArray, List.length_cons, List.length_nil, Nat.reduceAdd, Nat.reduceSub, Array.replicate_succ, Array.replicate_zero, List.push_toArray, List.append_toArray, List.nil_append, List.cons_append]
 rcases hF with h5 | ⟨h5, L, at_, ws, hL, hP, hRd, hAt, hWd⟩
 ·
  have p1 : ((500 : Int) < (l1.length : Int)) = True := eq_true (by omega)
  have p2 : decide ((500 : Int) < (l1.length : Int)) = true := decide_eq_true (by omega)
  have p3 : (500 < l1.length) = True := eq_true h5
  have p4 : decide (500 < l1.length) = true := decide_eq_true h5
  clear h5
  gi_wp2_with (first | (refine ⟨trivial, ?_⟩; gi_at_call 7; refine (callsIn_wide.2 (pascalinelaw06_awake.calls lpK true _ HA.out)).mono ?_; rintro e w1 ⟨rfl, hb⟩; have HB1 := mK hb; clear hb))
  exact ⟨_, results_tmp rfl _ _ _, rfl, HB1.out⟩
 ·
  have hnf := fun (xs ys : Array Value) (w' : World) => fn_eql Try.underlying46 (.func 34) xs ys w'
  have HL := mK hL; have HP := mK hP; have HRd := mK hRd; have HAt := mK hAt; have HWd := mK hWd; have H5 := mK h5
  have p1 : ((500 : Int) < (l1.length : Int)) = False := eq_false (by omega)
  have p2 : decide ((500 : Int) < (l1.length : Int)) = false := decide_eq_false (by omega)
  have p3 : (500 < l1.length) = False := eq_false (by omega)
  have p4 : decide (500 < l1.length) = false := decide_eq_false (by omega)
  clear hL hP hRd hAt hWd h5
  gi_wp2_with (first | (refine ⟨trivial, ?_⟩; gi_at_call 7; refine (callsIn_wide.2 (pascalinelaw06_awake.calls lpK true _ HA.out)).mono ?_; rintro e w1 ⟨rfl, hb⟩; have HB1 := mK hb; clear hb) | (refine ⟨trivial, ?_⟩; gi_at_call 16; refine (callsIn_wide.2 (lp_Print lpK a0 A1 c1 l1 L w1 ⟨Kd.C_below HC.out HB1.out⟩ (Nat.le_trans H5.out (by decide)) HL)).mono ?_; rintro e w2 ⟨rfl, hb⟩; have HB2 := mK (bP HB1.out hb); clear hb) | (refine ⟨trivial, ?_⟩; gi_at_call 17; refine (callsIn_wide.2 (pascalineref06_Print.calls lpK a0 A1 c1 l1 _ _ (Kd.C_below HC.out HB2.out) HC1.out HP.out)).mono ?_; rintro e w3 ⟨rfl, hb⟩; have HB3 := mK (bP HB2.out hb); clear hb) | (refine ⟨trivial, ?_⟩; gi_at_call 18; refine (callsIn_wide.2 (lp_Lines a0 _ _ ⟨_, _, _, rfl⟩)).mono ?_; rintro e w4 ⟨rfl, rfl⟩))
  have HB3' := mK HB3.out
  obtain ⟨g1, g2, g3, g4⟩ := lp_start2 w3 (.cells #[.int .u32 a0] 22) (.cells #[.slice A1 l1.length c1] 30) (.cells #[.string ⟨#[]⟩] 9)
  obtain ⟨W0, hW0⟩ : ∃ W0, (((w3.alloc (.cells #[.int .u32 a0] 22)).alloc (.cells #[.slice A1 l1.length c1] 30)).alloc (.cells #[.string ⟨#[]⟩] 9)) = W0 := ⟨_, rfl⟩
  rw [hW0] at g1 g2 g3 g4 ⊢
  clear hW0
  have hlt := blk_lt g2
  have hlt1 := blk_lt g1
  have hlt3 := blk_lt g3
  have hB0 : Below w.heap.size w W0 := bP HB3.out g4
  have h3 := HB3.out.size
  have h1000 : l1.length ≤ 1000 := Nat.le_trans H5.out (by decide)
  refine wpIn_rangeFunc_ownF rfl (by omega) (gf := 34) (lb := #[.pointer (some ⟨w3.heap.size + 1, 0, none⟩), .pointer (some ⟨w3.heap.size, 0, none⟩)]) rfl trivial (enters_of Try.func34 (by kernel_rfl) rfl)
   (lp_iter (5 - 1) lpK (by omega) a0 A1 c1 l1 L w W0 (w3.heap.size + 1) w3.heap.size HC h1000 HL hB0 g2 g1) (fun h k => KpL.trans h k) (lp_kb hlt hlt1 (by omega)) (Below.refl _ _) (fun _ => rfl)
   (fun pre W => (W.cell? ⟨w3.heap.size + 1 + 1, 0, none⟩ = some (.string (lp_text (pre.map (·.1)))) ∧ W.frozen? ⟨w3.heap.size + 1 + 1, 0, none⟩ = false ∧ (lp_text (pre.map (·.1))).size ≤ 1001 * pre.length) ∧ Below w.heap.size w W)
   (fun _ _ _ => False)
   (OwnFrom.and (Own.from (fun s A B row hs hg hr => ⟨cell_kept hs.1 hg hr, (frozen_kept hs.1 hg hr).trans hs.2.1, hs.2.2⟩) _) (ownFrom_below (Nat.le_refl _) (by omega)))
   (fun _ _ _ _ _ hs _ _ => hs)
   ⟨⟨(kC g3 0).trans rfl, kF g3 0, by decide⟩, hB0⟩
   (fun x => { tmps := #[.int .u32 a0, .slice A1 l1.length c1, undef, undef, .bool false, .string (lp_text L), .func (.func 34) #[] #[.pointer (some ⟨w3.heap.size + 1, 0, none⟩), .pointer (some ⟨w3.heap.size, 0, none⟩)], .pointer (some ⟨w3.heap.size + 1 + 1, 0, none⟩), .string x.1, undef, undef, undef, undef, .bool true, .bool false, .slice A1 l1.length c1, .int .i64 l1.length, .bool false, .int .u32 a0, .slice A1 l1.length c1, .string (lp_text L), .string (lp_text L), .int .u32 a0, .slice A1 l1.length c1, .string (lp_text L), .bool false, .int .u32 a0, .slice A1 l1.length c1, .func (.func 34) #[] #[.pointer (some ⟨w3.heap.size + 1, 0, none⟩), .pointer (some ⟨w3.heap.size, 0, none⟩)], .func (.func 34) #[] #[.pointer (some ⟨w3.heap.size + 1, 0, none⟩), .pointer (some ⟨w3.heap.size, 0, none⟩)], .bool false, .func (.func 34) #[] #[.pointer (some ⟨w3.heap.size + 1, 0, none⟩), .pointer (some ⟨w3.heap.size, 0, none⟩)], .string x.1, undef, undef, undef, undef, undef, undef, undef, undef, undef, undef, undef, undef, undef, undef, undef, undef, undef, undef, undef, undef, undef, undef, undef, undef, undef, undef, undef, undef, undef, undef, undef, undef, undef, undef, undef, undef, undef, undef, undef, undef, undef], defers := [] }) ?assign ?body ?done ?stop
  case assign =>
   intro l x W K hK
   gi_wp2
   exact hK
  case body =>
   rintro l pre x W ⟨⟨hc, hf, hsz⟩, hB⟩ hlen2
   obtain ⟨x, hx⟩ := x
   have e : List.map (fun x : LS => x.1) (pre ++ [⟨x, hx⟩]) = List.map (fun x : LS => x.1) pre ++ [x] := by rw [List.map_append]; rfl
   have HE := mK (congrArg lp_text e)
   have hsn := lp_text_snoc (List.map (fun x : LS => x.1) pre) x
   clear e
   obtain ⟨T, hT⟩ : ∃ T, lp_text (List.map (fun x : LS => x.1) pre) = T := ⟨_, rfl⟩
   rw [hT] at hc hsz hsn
   have HSN := mK hsn
   clear hsn hT
   have z0 : (9223372036854775807 < T.size + x.size) = False := eq_false (by omega)
   have z1 : (9223372036854775807 < T.size + x.size + 1) = False := eq_false (by omega)
   have HSZ := mK hsz; have HLN := mK hlen2; have HB := mK hB
   clear hsz hlen2 hB
   gi_wp2
   refine ⟨KeepsOthers.setCell _ _ _, ⟨(Below.refl w.heap.size W).setCell (p := ⟨w3.heap.size + 1 + 1, 0, none⟩) (by show w.heap.size ≤ w3.heap.size + 1 + 1; omega) _, fun o e => (Below.heap_setCell W _ _ _ (by show w3.heap.size + 1 ≠ w3.heap.size + 1 + 1; omega)).trans e, fun o e => (Below.heap_setCell W _ _ _ (by show w3.heap.size ≠ w3.heap.size + 1 + 1; omega)).trans e⟩, ⟨⟨?_, by rw [World.frozen?_setCell]; exact hf, ?_⟩, HB.out.setCell (p := ⟨w3.heap.size + 1 + 1, 0, none⟩) (by show w.heap.size ≤ w3.heap.size + 1 + 1; omega) _⟩⟩
   ·
    rw [HE.out, HSN.out]; exact World.cell?_setCell_same' _ _ _ (by rw [hc]; rfl)
   ·
    have h1 := HSZ.out
    rw [HE.out, HSN.out, ByteArray.size_append, ByteArray.size_append, List.length_append]
    show T.size + x.size + 1 ≤ 1001 * (pre.length + 1)
    omega
  case done =>
   rintro D xs W hD hS ⟨⟨hc, hf, hsz⟩, hB⟩ hK
   have hq : xs.unattach = L := hS
   have hc2 : W.cell? ⟨w3.heap.size + 1 + 1, 0, none⟩ = some (.string (lp_text L)) := by rw [hc, ← hq]; rfl
   have HC2 := mK hc2; have HB := mK hB; have HK := mK hK
   clear hc hf hsz hB hK hS hq hc2
   have hat : at_ = a0 ∨ (¬ at_ = a0 ∧ l1.length = 0 ∧ at_ = 0) := by
    by_cases e : at_ = a0
    ·
     exact .inl e
    ·
     exact .inr ⟨e, HAt.out.resolve_left e⟩
   rcases hat with rfl | ⟨hne, hl0, rfl⟩
   ·
    gi_wp2_with (first | (refine ⟨trivial, ?_⟩; gi_at_call 13; refine (callsIn_wide.2 (listing_Read.calls lpK (lp_text L) _ ws 0 0 W HRd.out)).mono ?_; rintro e w8 ⟨v8, rfl, hR, hb⟩; obtain ⟨A8, c8, rfl, hc8, hC8⟩ := Kd.R_reads hR; have HB8 := mK (bP HB.out hb); have hc8' := kW hb HC2.out; have HC8 := mK hC8; have HN8 := mK hc8; have HK8 := mK ((hb.block D (blk_lt HK.out)).trans HK.out); clear hb hR hC8 hc8) | (refine ⟨trivial, ?_⟩; gi_at_call 15; refine (callsIn_wide.2 (pascalineref01_Words.calls lpK _ _ ws A1 c1 l1 true _ HC8.out HN8.out (Kd.C_below HC.out HB8.out) HC1.out HWd.out)).mono ?_; rintro e w9 ⟨rfl, hd⟩; have hb := hd.below; have HB9 := mK (bP HB8.out hb); have HK9 := mK ((hb.block D (blk_lt HK8.out)).trans HK8.out); clear hb hd))
    refine ⟨by simp, .inl ⟨_, _, rfl, run_takeDeferred HK9.out, ?_⟩⟩
    exact ⟨_, results_tmp rfl _ _ _, rfl, HB9.out.trans (belowK_b (w := w) (Nat.le_refl _) _ D _ _ (by omega) HK9.out rfl rfl)⟩
   ·
    have b1 : ((0 : Int) == a0) = false := bQ hne
    have HL0 := mK hl0
    have b2 : ((l1.length : Int) == 0) = true := by rw [hl0]; rfl
    clear hne hl0
    gi_wp2_with (first | (refine ⟨trivial, ?_⟩; gi_at_call 13; refine (callsIn_wide.2 (listing_Read.calls lpK (lp_text L) _ ws 0 0 W HRd.out)).mono ?_; rintro e w8 ⟨v8, rfl, hR, hb⟩; obtain ⟨A8, c8, rfl, hc8, hC8⟩ := Kd.R_reads hR; have HB8 := mK (bP HB.out hb); have hc8' := kW hb HC2.out; have HC8 := mK hC8; have HN8 := mK hc8; have HK8 := mK ((hb.block D (blk_lt HK.out)).trans HK.out); clear hb hR hC8 hc8) | (refine ⟨trivial, ?_⟩; gi_at_call 15; refine (callsIn_wide.2 (pascalineref01_Words.calls lpK _ _ ws A1 c1 l1 true _ HC8.out HN8.out (Kd.C_below HC.out HB8.out) HC1.out HWd.out)).mono ?_; rintro e w9 ⟨rfl, hd⟩; have hb := hd.below; have HB9 := mK (bP HB8.out hb); have HK9 := mK ((hb.block D (blk_lt HK8.out)).trans HK8.out); clear hb hd))
    refine ⟨by simp, .inl ⟨_, _, rfl, run_takeDeferred HK9.out, ?_⟩⟩
    exact ⟨_, results_tmp rfl _ _ _, rfl, HB9.out.trans (belowK_b (w := w) (Nat.le_refl _) _ D _ _ (by omega) HK9.out rfl rfl)⟩
  case stop =>
   rintro D c pre W _ _ h _
   exact h.elim
end

end Go.Proofs.Ytfagpgpeiomnpaa.P

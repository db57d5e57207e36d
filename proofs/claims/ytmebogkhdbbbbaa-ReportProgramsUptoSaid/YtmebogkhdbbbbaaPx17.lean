-- Written by a program of this session (wip/tools/hp.py) out of the translation.
import Derived.Test.YtmebogkhdbbbbaaPx0
import Derived.Test.YtmebogkhdbbbbaaPx2
import Derived.Test.YtmebogkhdbbbbaaPx16
namespace Go.Proofs.Ytmebogkhdbbbbaa.P
open Go.RowKit Go.Proofs.YtmebogkhdbbbbaaW.PrintWords Go.Proofs.YtmebogkhdbbbbaaW.PrintLast Go.Proofs.YtmebogkhdbbbbaaW.PrintMore
attribute [local go_sem] max2_int min2_int max_two min_two max_three min_three max_four min_four   -- for this text's walks alone
set_option linter.unusedVariables false
set_option linter.unusedSimpArgs false

/-! ### report_Program: function 12 -/
theorem sb_sized : (Try.prog.info? 81).map (·.size) = some 2 := by kernel_rfl
theorem sb_lies : liesAt Try.prog Try.prog.depth 81 (2 / Try.prog.cellsOf 81) 0 81 1 = true := by kernel_rfl
theorem sb_info : (Try.prog.info? 5).map (fun i => (i.zero, i.size, i.bytes)) = some (some (.int .u8 0), 1, 1) := by kernel_rfl
set_option maxHeartbeats 1000000 in
set_option maxRecDepth 100000 in
theorem sb_check_used (b : Nat) (w : World) (h0 : w.cell? ⟨b, 0, none⟩ = some (.pointer (some ⟨b, 0, none⟩))) :
    Calls Try.prog 39 #[.pointer (some ⟨b, 0, none⟩)] w fun e w' => e = .returned (.tuple #[]) ∧ w' = w := by
  obtain ⟨j, hj, _⟩ := Option.map_eq_some_iff.1 sb_sized
  go_enter Try.func39, Try.ntmps39
  go_wp2
  rw [Lib.run_neq_ptr_same w _ Try.underlying78 hj]
  go_wp2
  go_end0
  exact ⟨rfl, rfl⟩
set_option maxHeartbeats 1000000 in
set_option maxRecDepth 100000 in
theorem sb_check_fresh (b : Nat) (w : World) (h0 : w.cell? ⟨b, 0, none⟩ = some (.pointer none)) (hsh : w.shape? b = some (81, 2)) (hfz : w.frozen? ⟨b, 0, none⟩ = false) :
    Calls Try.prog 39 #[.pointer (some ⟨b, 0, none⟩)] w fun e w' => e = .returned (.tuple #[]) ∧ w' = w.setCell ⟨b, 0, none⟩ (.pointer (some ⟨b, 0, none⟩)) := by
  obtain ⟨j, hj, hjs⟩ := Option.map_eq_some_iff.1 sb_sized
  go_enter Try.func39, Try.ntmps39
  go_wp2
  rw [Lib.run_to_unsafe w ⟨b, 0, none⟩ Try.underlying78 Try.underlying110 hj (by rw [hjs]; decide) hsh (Nat.zero_lt_succ 1)]
  simp only [Result.andThen]
  rw [Oper.upon_value]
  go_wp2
  rw [run_callFunc_extern Try.func46 (by kernel_rfl) (by kernel_rfl) (by kernel_rfl) (e := Extern.AbiNoEscape.same) (by kernel_rfl)]
  rw [Lib.run_noEscape]
  simp only [Result.andThen]
  rw [Oper.upon_value]
  go_wp2
  rw [Lib.run_from_unsafe w ⟨b, 0, none⟩ Try.underlying110 Try.underlying78 hj hsh sb_lies]
  simp only [Result.andThen]
  rw [Oper.upon_value]
  go_wp2
  go_end0
  exact ⟨rfl, rfl⟩
theorem sb_check (B b : Nat) (bs : List Value) (w : World) (h : Lib.IsBuilderF 81 5 B b bs w) :
    Calls Try.prog 39 #[.pointer (some ⟨b, 0, none⟩)] w fun e w' => e = .returned (.tuple #[]) ∧ Lib.BuilderAtF 81 5 B b (.pointer (some ⟨b, 0, none⟩)) bs w' ∧ Below B w w' ∧ Lib.OthersKept 5 (some b) w w' := by
  rcases h with h | h
  · refine (sb_check_fresh b w h.cell0 h.shape h.frozen0).mono ?_
    rintro e w' ⟨rfl, rfl⟩
    exact ⟨rfl, h.used _, (Below.refl B w).setCell (p := ⟨b, 0, none⟩) h.1 _, (Lib.OthersKept.refl _ _ w).setCell ⟨b, 0, none⟩ rfl _⟩
  · refine (sb_check_used b w h.cell0).mono ?_
    rintro e w' ⟨rfl, rfl⟩
    exact ⟨rfl, h, Below.refl B _, Lib.OthersKept.refl _ _ _⟩
set_option maxHeartbeats 2000000 in
set_option maxRecDepth 100000 in
theorem sb_byte (B b : Nat) (bs : List Value) (c : Int) (w : World) (h : Lib.IsBuilderF 81 5 B b bs w) (hlen : bs.length + 1 ≤ 140737488355328) (hBw : B ≤ w.heap.size) :
    Calls Try.prog 41 #[.pointer (some ⟨b, 0, none⟩), .int .u8 c] w fun e w' => e = .returned .nilIface ∧ (Lib.BuilderAtF 81 5 B b (.pointer (some ⟨b, 0, none⟩)) (bs ++ [.int .u8 c]) w' ∧ Below B w w' ∧ Lib.OthersKept 5 (some b) w w') := by
  obtain ⟨i0, hi, hz0, hz1, hz2⟩ := info_parts sb_info
  go_enter Try.func41, Try.ntmps41
  go_wp2_with (go_at_call 39; refine (sb_check B b bs _ h).mono ?_)
  rintro e w1 ⟨rfl, h1, hb1, hk1⟩
  obtain ⟨hB, v, hbk, hown, hne⟩ := h1
  have c0 : w1.cell? ⟨b, 0, none⟩ = some (.pointer (some ⟨b, 0, none⟩)) := by rw [Lib.cell_of_heap hbk]; rfl
  have c1 : w1.cell? ⟨b, 1, none⟩ = some v := by rw [Lib.cell_of_heap hbk]; rfl
  go_wp2_with (at_builtin; refine wpList_append_ownF _ rfl _ _ 79 rfl B 5 i0 (.int .u8 0) 1 1 Try.underlying79 hi hz0 hz1 hz2 rfl (by decide) _ _ _ rfl (hown.alloc _) ⟨w1.heap.size, 0, none⟩ 1 1 [.int .u8 c] rfl rfl ?c1 ?c2 ?c3 ?c4 ?c5 ?_)
  case c1 =>
    intro j u hj
    match j, hj with
    | 0, hj => simp at hj; subst hj; simp [Addr.add]
  case c2 => intro u hu; simp at hu; subst hu; rfl
  case c3 => unfold maxLen; omega
  case c4 => omega
  case c5 => have := hb1.size; simp; omega
  intro v' w2 hown' hgrow _
  have hlt : b < w1.heap.size := blk_lt hbk
  have hb2 : w2.heap[b]? = some (.cells #[.pointer (some ⟨b, 0, none⟩), v] 81 (0, 0)) := by
    rw [hgrow.block b (by simp; omega) (fun e => hne e.symm), Lib.alloc_old w1 _ b hlt]
    exact hbk
  have d0 : w2.cell? ⟨b, 0, none⟩ = some (.pointer (some ⟨b, 0, none⟩)) := by rw [Lib.cell_of_heap hb2]; rfl
  have d1 : w2.cell? ⟨b, 1, none⟩ = some v := by rw [Lib.cell_of_heap hb2]; rfl
  have f1 : w2.frozen? ⟨b, 1, none⟩ = false := Lib.frozen_of_heap hb2 1
  obtain ⟨g, cap, rfl⟩ : ∃ g cap, v' = .slice (some ⟨g, 0, none⟩) (bs.length + 1) cap := by
    rcases hown'.2 with ⟨_, h0⟩ | ⟨g, cap, cur, fz, hv, _⟩
    · omega
    · exact ⟨g, cap, hv⟩
  go_wp2
  go_ret
  refine ⟨rfl, ?_, ?_, ((hk1.alloc _).grown hgrow (Lib.ownsRowF_kind (hown.alloc _))).setCell ⟨b, 1, none⟩ rfl _⟩
  · exact Lib.BuilderAtF.put (T := 81) (e := 5) hB hb2 (bs' := bs ++ [.int .u8 c]) (by simpa using hown') (by decide)
  · exact ((hb1.alloc (by have := hb1.size; omega) _).grown hgrow (by have := hb1.size; simp; omega) (fun k hk => (hown.lt k hk).1)).setCell (p := ⟨b, 1, none⟩) hB _
set_option maxHeartbeats 2000000 in
set_option maxRecDepth 100000 in
theorem sb_str (B b : Nat) (bs : List Value) (s : ByteArray) (w : World) (h : Lib.IsBuilderF 81 5 B b bs w) (hlen : bs.length + s.size ≤ 140737488355328) (hBw : B ≤ w.heap.size) :
    Calls Try.prog 29 #[.pointer (some ⟨b, 0, none⟩), .string s] w fun e w' => e = .returned (.tuple #[.int .i64 s.size, .nilIface]) ∧ (Lib.BuilderAtF 81 5 B b (.pointer (some ⟨b, 0, none⟩)) (bs ++ Lib.strCells s) w' ∧ Below B w w' ∧ Lib.OthersKept 5 (some b) w w') := by
  obtain ⟨i0, hi, hz0, hz1, hz2⟩ := info_parts sb_info
  go_enter Try.func29, Try.ntmps29
  go_wp2_with (go_at_call 39; refine (sb_check B b bs _ h).mono ?_)
  rintro e w1 ⟨rfl, h1, hb1, hk1⟩
  obtain ⟨hB, v, hbk, hown, hne⟩ := h1
  have c0 : w1.cell? ⟨b, 0, none⟩ = some (.pointer (some ⟨b, 0, none⟩)) := by rw [Lib.cell_of_heap hbk]; rfl
  have c1 : w1.cell? ⟨b, 1, none⟩ = some v := by rw [Lib.cell_of_heap hbk]; rfl
  go_wp2_with (at_builtin; refine Lib.wpList_append_own_stringF _ rfl _ _ 79 9 rfl B 5 i0 Try.underlying79 Try.underlying9 hi hz0 hz1 hz2 _ _ _ rfl hown s rfl ?c3 ?c4 ?c5 ?_)
  case c3 => unfold maxLen; omega
  case c4 => omega
  case c5 => have := hb1.size; omega
  intro v' w2 hown' hgrow _
  have hlt : b < w1.heap.size := blk_lt hbk
  have hb2 : w2.heap[b]? = some (.cells #[.pointer (some ⟨b, 0, none⟩), v] 81 (0, 0)) := by
    rw [hgrow.block b hlt (fun e => hne e.symm)]
    exact hbk
  have d0 : w2.cell? ⟨b, 0, none⟩ = some (.pointer (some ⟨b, 0, none⟩)) := by rw [Lib.cell_of_heap hb2]; rfl
  have d1 : w2.cell? ⟨b, 1, none⟩ = some v := by rw [Lib.cell_of_heap hb2]; rfl
  have f1 : w2.frozen? ⟨b, 1, none⟩ = false := Lib.frozen_of_heap hb2 1
  obtain ⟨ao, n', cap, rfl⟩ : ∃ ao n' cap, v' = .slice ao n' cap := by
    rcases hown'.2 with ⟨hv, _⟩ | ⟨g, cap, cur, fz, hv, _⟩
    · exact ⟨_, _, _, hv⟩
    · exact ⟨_, _, _, hv⟩
  go_wp2
  go_ret2
  refine ⟨rfl, ?_, ?_, (hk1.grown hgrow (Lib.ownsRowF_kind hown)).setCell ⟨b, 1, none⟩ rfl _⟩
  · exact Lib.BuilderAtF.put (T := 81) (e := 5) hB hb2 (bs' := bs ++ Lib.strCells s) (by simpa [Lib.strCells_length] using hown') (by decide)
  · exact (hb1.grown hgrow (by have := hb1.size; omega) (fun k hk => (hown.lt k hk).1)).setCell (p := ⟨b, 1, none⟩) hB _

theorem rb_below {T e B b : Nat} {bs : List Value} {w w' : World} (h : Lib.IsBuilderF T e B b bs w) (hb : Below w.heap.size w w') : Lib.IsBuilderF T e B b bs w' := by
  have one : ∀ p, Lib.BuilderAtF T e B b p bs w → Lib.BuilderAtF T e B b p bs w' := by
    intro p ⟨hB, v, hbk, ⟨hl, hown⟩, hne⟩
    refine ⟨hB, v, (hb.block b (blk_lt hbk)).trans hbk, ⟨hl, ?_⟩, hne⟩
    rcases hown with hn | ⟨g, cap, cur, fz, hv, hg, hgk, rest⟩
    · exact .inl hn
    · exact .inr ⟨g, cap, cur, fz, hv, hg, (hb.block g (blk_lt hgk)).trans hgk, rest⟩
  rcases h with h | h
  · exact .inl (one _ h)
  · exact .inr (one _ h)
theorem rb_lt {T e B b : Nat} {bs : List Value} {w : World} (h : Lib.IsBuilderF T e B b bs w) : b < w.heap.size := by
  have one : ∀ p, Lib.BuilderAtF T e B b p bs w → b < w.heap.size := fun p ⟨_, v, hbk, _⟩ => blk_lt hbk
  rcases h with h | h
  · exact one _ h
  · exact one _ h
/-- A builder that holds a text. -/
def RbIs (B b : Nat) (s : ByteArray) (w : World) : Prop := Lib.IsBuilderF 81 5 B b (Lib.byteCells s.data.toList) w
theorem RbIs.below {B b : Nat} {s : ByteArray} {w w' : World} (h : RbIs B b s w) (hb : Below w.heap.size w w') : RbIs B b s w' := rb_below h hb
theorem rb_new (w : World) : RbIs w.heap.size w.heap.size ⟨#[]⟩ (w.alloc (.cells #[.pointer none, .slice none 0 0] 81)) := Lib.IsBuilderF.of (Lib.fresh_isBuilder 81 5 w)
theorem rb_write {B b : Nat} {s : ByteArray} (x : ByteArray) {w : World} (h : RbIs B b s w) (hl : s.size + x.size ≤ 140737488355328) (hB : B ≤ w.heap.size) :
    Calls Try.prog 29 #[.pointer (some ⟨b, 0, none⟩), .string x] w fun e w' => e = .returned (.tuple #[.int .i64 x.size, .nilIface]) ∧ RbIs B b (s ++ x) w' ∧ Below B w w' ∧ Lib.OthersKept 5 (some b) w w' := by
  refine (sb_str B b _ x w h (by rw [Lib.byteCells_length]; exact hl) hB).mono ?_
  rintro e w' ⟨rfl, h1, h2, h3⟩
  refine ⟨rfl, ?_, h2, h3⟩
  have e1 : Lib.strCells x = Lib.byteCells x.data.toList := by unfold Lib.strCells Lib.byteCells; rfl
  have e2 : (s ++ x).data.toList = s.data.toList ++ x.data.toList := by rw [ByteArray.data_append, Array.toList_append]
  unfold RbIs
  rw [e2, Lib.byteCells_append, ← e1]
  exact .inr h1
theorem rb_string {B b : Nat} {s : ByteArray} {w : World} (h : RbIs B b s w) (hB : B ≤ w.heap.size) :
    Calls Try.prog 30 #[.pointer (some ⟨b, 0, none⟩)] w fun e w' => e = .returned (.string s) ∧ Below B w w' := by
  refine (Go.Proofs.Ytmebogkhdbbbbaa.C.sh_Builder_String_any_k B b _ w h hB).mono ?_
  rintro e w' ⟨rfl, _, hb, _⟩
  exact ⟨by cases s; rfl, hb⟩
set_option maxRecDepth 100000 in
set_option maxHeartbeats 8000000 in
theorem rp_calls {T : Int → ByteArray} (hT : RpT T) (w : World) (a0 a1 a2 a3 a4 : Int) (ha : 0 ≤ a0 ∧ a0 ≤ a1 ∧ a1 ≤ a2 ∧ a2 ≤ a3 ∧ a3 ≤ a4 ∧ a4 ≤ 4294967295) (A5 : Option Addr) (n5 c5 : Nat) (A6 : Option Addr) (n6 c6 : Nat) (s7 s8 s9 s10 : Int) (AM : Option Addr) (cM : Nat) (ms : List S49) (hM : Kd.C k49 w AM ms.length ms) (hms : ∀ m ∈ ms, RpOk m) (hml : ms.length ≤ 80) (AF : Option Addr) (nF cF : Nat) (AO : Option Addr) (nO cO : Nat) (AT : Option Addr) (cT : Nat) (ts : List Int) (hTs : Kd.C (Kd.int .i64) w AT ts.length ts) (htl : ts.length ≤ 80) (hts : ∀ n ∈ ts, -9223372036854775808 ≤ n ∧ n ≤ 9223372036854775807) :
    Calls Try.prog 12 #[.agg #[.int .u32 a0, .int .u32 a1, .int .u32 a2, .int .u32 a3, .int .u32 a4, .slice A5 n5 c5, .slice A6 n6 c6, .int .u32 s7, .int .u32 s8, .int .u32 s9, .int .u32 s10, .slice AM ms.length cM, .slice AF nF cF, .slice AO nO cO, .slice AT ts.length cT]] w fun e w' => e = .returned (.string (rp_sum T ms ts ms.length ++ rp_last T a0 a1 a2 a3 a4)) ∧ Below w.heap.size w w' := by
  have HM := Aside0.mk hM; have HMS := Aside0.mk hms; have HTT := Aside0.mk hTs; have HTS := Aside0.mk hts; have HAA := Aside0.mk ha
  have HSZ := Aside0.mk (fun k (h : k ≤ ms.length) => rp_sum_size hT hms hts k h)
  clear hM hms hTs hts ha
  have hmz : (ms.length : Int) ≤ 80 := by omega
  have htz : (ts.length : Int) ≤ 80 := by omega
  go_enter Try.func12, Try.ntmps12
  go_wp2_with (((with_reducible refine gate_dst (N := 1) rfl ?_); refine box_event ?hg (N := 1) ?hd (cs := #[.int .u32 a0, .int .u32 a1, .int .u32 a2, .int .u32 a3, .int .u32 a4, .slice A5 n5 c5, .slice A6 n6 c6, .int .u32 s7, .int .u32 s8, .int .u32 s9, .int .u32 s10, .slice AM ms.length cM, .slice AF nF cF, .slice AO nO cO, .slice AT ts.length cT]) (t := 51) ?hr ?_; (case hd => rfl); (case hg => rfl); (case hr => first | (go_simp; done) | (go_simp; rfl)); intro b1 hgx w1 hbox hb; have HB1 := Aside0.mk hb; have HX1 := Aside0.mk hbox; have c11 : (w1.alloc (.cells #[.pointer none, .slice none 0 0] 81)).cell? ⟨b1, 11, none⟩ = some (.slice AM ms.length cM) := pw_cell_below (below_alloc (Below.refl _ _) _) (blk_cell hbox 11); clear hgx hbox hb))
  clear c11
  go_loopg [12] (ms.length + 1) (fun kx v12 wr => ∃ k : Nat, v12 = .int .i64 k ∧ Aside0 (k + kx = ms.length + 1 ∧ k ≤ ms.length) ∧ Aside0 (RbIs w1.heap.size w1.heap.size (rp_sum T ms ts k) wr) ∧ Aside0 (Below w1.heap.size w1 wr))
  case atStart => exact ⟨0, rfl, ⟨⟨by omega, by omega⟩⟩, ⟨rb_new w1⟩, ⟨below_alloc (Below.refl _ _) _⟩⟩
  case round =>
    obtain ⟨k, rfl, HI, HV, HBW⟩ := hrel
    have HB := Aside0.mk (below_step HB1.out HBW.out)
    have HWR := Aside0.mk HBW.out.size
    have HLT := Aside0.mk (rb_lt HV.out)
    by_cases hk : k < ms.length
    · obtain ⟨ad, e, cx0, cx1, cx2, cx3, cx4⟩ := at_T49 HM.out (k : Int) (by omega) (by omega)
      cases e
      have hok : RpOk (rd_T49 ms (k : Int)) := by
        unfold rd_T49
        rw [Int.toNat_natCast, List.getD_eq_getElem?_getD, List.getElem?_eq_getElem hk]
        exact HMS.out _ (List.getElem_mem _)
      rw [Int.toNat_natCast] at cx0 cx1 cx2 cx3 cx4
      have hnx : rp_sum T ms ts (k + 1) = rp_sum T ms ts k ++ rp_line T (rd_T49 ms (k : Int)) (ts.getD k 0) := rfl
      have hnr : -9223372036854775808 ≤ ts.getD k 0 ∧ ts.getD k 0 ≤ 9223372036854775807 := by
        rw [List.getD_eq_getElem?_getD]
        cases e : ts[k]? with
        | none => simp
        | some n => exact HTS.out n (List.mem_of_getElem? e)
      have hss : (rp_sum T ms ts k).size ≤ 84000000 := by have := HSZ.out k (by omega); omega
      have hls := rp_line_size hT hok hnr
      obtain ⟨md, hmd⟩ : ∃ md, rd_T49 ms (k : Int) = md := ⟨_, rfl⟩
      obtain ⟨n, hn⟩ : ∃ n, ts.getD k 0 = n := ⟨_, rfl⟩
      rw [hmd] at cx0 cx1 cx2 cx3 cx4 hok hnx hls
      rw [hn] at hnx hnr hls
      clear hmd
      obtain ⟨m0, m1, m2, m3, m4⟩ := md
      unfold RpOk at hok
      dsimp only at cx0 cx1 cx2 cx3 cx4 hok
      obtain ⟨q0, ⟨q1, q1b⟩, ⟨q2, q2b⟩, ⟨q3, q3b⟩, q4, q4b⟩ := hok
      obtain ⟨qn, qnb⟩ := hnr
      replace cx0 := pw_cell_below HB.out cx0
      replace cx1 := pw_cell_below HB.out cx1
      replace cx2 := pw_cell_below HB.out cx2
      replace cx3 := pw_cell_below HB.out cx3
      replace cx4 := pw_cell_below HB.out cx4
      have HNX := Aside0.mk hnx; have HN := Aside0.mk hn; have HH := Aside0.mk hk; have HSS := Aside0.mk hss; have HLS := Aside0.mk hls
      have y1 := (hT m1 (by omega)).2.2
      have y2 := (hT (m1 + m2) (by omega)).2.2
      have y3 := (hT m3 (by omega)).2.2
      have y4 := (hT m4 (by omega)).2.2
      have y5 := (hT n (by omega)).2.2
      have z0 : (9223372036854775807 < 7 + m0.size) = False := eq_false (by omega)
      have z1 : (9223372036854775807 < 7 + m0.size + 7) = False := eq_false (by omega)
      have z2 : (9223372036854775807 < 7 + m0.size + 7 + (T m1).size) = False := eq_false (by omega)
      have z3 : (9223372036854775807 < 7 + m0.size + 7 + (T m1).size + 4) = False := eq_false (by omega)
      have z4 : (9223372036854775807 < 7 + m0.size + 7 + (T m1).size + 4 + (T (m1 + m2)).size) = False := eq_false (by omega)
      have z5 : (9223372036854775807 < 7 + m0.size + 7 + (T m1).size + 4 + (T (m1 + m2)).size + 15) = False := eq_false (by omega)
      have z6 : (9223372036854775807 < 7 + m0.size + 7 + (T m1).size + 4 + (T (m1 + m2)).size + 15 + (T m3).size) = False := eq_false (by omega)
      have z7 : (9223372036854775807 < 7 + m0.size + 7 + (T m1).size + 4 + (T (m1 + m2)).size + 15 + (T m3).size + 18) = False := eq_false (by omega)
      have z8 : (9223372036854775807 < 7 + m0.size + 7 + (T m1).size + 4 + (T (m1 + m2)).size + 15 + (T m3).size + 18 + (T m4).size) = False := eq_false (by omega)
      have z9 : (9223372036854775807 < 7 + m0.size + 7 + (T m1).size + 4 + (T (m1 + m2)).size + 15 + (T m3).size + 18 + (T m4).size + 8) = False := eq_false (by omega)
      have z10 : (9223372036854775807 < 7 + m0.size + 7 + (T m1).size + 4 + (T (m1 + m2)).size + 15 + (T m3).size + 18 + (T m4).size + 8 + (T n).size) = False := eq_false (by omega)
      have z11 : (9223372036854775807 < 7 + m0.size + 7 + (T m1).size + 4 + (T (m1 + m2)).size + 15 + (T m3).size + 18 + (T m4).size + 8 + (T n).size + 1) = False := eq_false (by omega)
      have r12 : IntKind.i64.wrap (m1 + m2) = m1 + m2 := by rw [IntKind.wrap_i64]; omega
      have k1 : (0 : Int) ≤ (k : Int) := by omega
      have k2 : (k : Int) < (ms.length : Int) := by omega
      have k2b : decide (k < ms.length) = true := decide_eq_true hk
      have k3 : (k : Int) ≤ 80 := by omega
      clear hnx hss hls hk y1 y2 y3 y4 y5
      obtain ⟨W1, hW1⟩ : ∃ W1, W1 = wr.alloc (.cells #[.string m0, .int .i64 m1, .int .i64 m2, .int .i64 m3, .int .i64 m4] 49) := ⟨_, rfl⟩
      have hB1 : Below wr.heap.size wr W1 := by rw [hW1]; exact below_alloc (Below.refl _ _) _
      obtain ⟨B5, hB5⟩ : ∃ B5, wr.heap.size = B5 := ⟨_, rfl⟩
      have yb : W1.heap[B5]? = some (.cells #[.string m0, .int .i64 m1, .int .i64 m2, .int .i64 m3, .int .i64 m4] 49 (0, 0)) := by rw [hW1, ← hB5]; exact blk_new wr _
      have HW1 := Aside0.mk hW1
      have HB5 := Aside0.mk hB5
      have HY0 := Aside0.mk yb
      have HV0 := Aside0.mk (RbIs.below HV.out hB1)
      have HD0 := Aside0.mk hB1
      clear hB1 hW1 yb hB5
      have c14 : (wr.alloc (.cells #[.string m0, .int .i64 m1, .int .i64 m2, .int .i64 m3, .int .i64 m4] 49)).cell? ⟨b1, 14, none⟩ = some (.slice AT ts.length cT) := by rw [← HW1.out]; exact pw_cell_below (below_step HBW.out HD0.out) (blk_cell HX1.out 14)
      by_cases hkt : k < ts.length
      · obtain ⟨at_, e, ct⟩ := Kd.at_int HTT.out (k : Int) (by omega) (by omega)
        cases e
        rw [Int.toNat_natCast, show rd ts (k : Int) = n by rw [← HN.out]; unfold rd; rw [Int.toNat_natCast]] at ct
        replace ct : (wr.alloc (.cells #[.string m0, .int .i64 m1, .int .i64 m2, .int .i64 m3, .int .i64 m4] 49)).cell? (at_.add k) = some (.int .i64 n) := by rw [← HW1.out]; exact pw_cell_below (below_step HB.out HD0.out) ct
        have k4 : (k : Int) < (ts.length : Int) := by omega
        have k4b : decide (k < ts.length) = true := decide_eq_true hkt
        clear hn hkt
        go_wp2
        rw [← HW1.out, HB5.out]
        clear c14 ct cx0 cx1 cx2 cx3 cx4
        refine wp_region_held_drew (S := fun w' => w'.cell? ⟨B5, 0, none⟩ = some (.string m0) ∧ w'.cell? ⟨B5, 1, none⟩ = some (.int .i64 m1) ∧ w'.cell? ⟨B5, 2, none⟩ = some (.int .i64 m2) ∧ w'.cell? ⟨B5, 3, none⟩ = some (.int .i64 m3) ∧ w'.cell? ⟨B5, 4, none⟩ = some (.int .i64 m4)) (by kernel_rfl) (show W1.drew.cell? ⟨B5, 0, none⟩ = some (.string m0) ∧ W1.drew.cell? ⟨B5, 1, none⟩ = some (.int .i64 m1) ∧ W1.drew.cell? ⟨B5, 2, none⟩ = some (.int .i64 m2) ∧ W1.drew.cell? ⟨B5, 3, none⟩ = some (.int .i64 m3) ∧ W1.drew.cell? ⟨B5, 4, none⟩ = some (.int .i64 m4) from ⟨blk_cell (blk_drew HY0.out) 0, blk_cell (blk_drew HY0.out) 1, blk_cell (blk_drew HY0.out) 2, blk_cell (blk_drew HY0.out) 3, blk_cell (blk_drew HY0.out) 4⟩) (fun hHeld => ?_)
        refine C.tk_take (i := 0) (v := ?_) (by kernel_rfl) (by kernel_rfl) (by kernel_rfl) (fun oi hoi => ?_) rfl
        rotate_left
        simp only [List.getElem?_toArray, List.getElem?_cons_succ, List.getElem?_cons_zero] at hoi
        cases hoi
        refine ⟨fun _ _ _ h => h, Or.inl ⟨by rfl, ?_⟩, by assumption, ?_⟩
        · (intro w hSw; (try dsimp only at hSw); go_simp; all_goals with_reducible rfl)
        try simp only [Act.put, List.setIfInBounds_toArray, List.set_cons_zero, List.set_cons_succ]
        refine C.tk_take (i := 1) (v := ?_) (by kernel_rfl) (by kernel_rfl) (by kernel_rfl) (fun oi hoi => ?_) rfl
        rotate_left
        simp only [List.getElem?_toArray, List.getElem?_cons_succ, List.getElem?_cons_zero] at hoi
        cases hoi
        refine ⟨fun _ _ _ h => h, Or.inl ⟨by rfl, ?_⟩, by assumption, ?_⟩
        · (intro w hSw; (try dsimp only at hSw); go_simp; all_goals with_reducible rfl)
        try simp only [Act.put, List.setIfInBounds_toArray, List.set_cons_zero, List.set_cons_succ]
        refine C.tk_take (i := 2) (v := ?_) (by kernel_rfl) (by kernel_rfl) (by kernel_rfl) (fun oi hoi => ?_) rfl
        rotate_left
        simp only [List.getElem?_toArray, List.getElem?_cons_succ, List.getElem?_cons_zero] at hoi
        cases hoi
        refine ⟨fun _ _ _ h => h, Or.inl ⟨by rfl, ?_⟩, by assumption, ?_⟩
        · (intro w hSw; (try dsimp only at hSw); go_simp; all_goals with_reducible rfl)
        try simp only [Act.put, List.setIfInBounds_toArray, List.set_cons_zero, List.set_cons_succ]
        refine C.tk_take (i := 3) (v := ?_) (by kernel_rfl) (by kernel_rfl) (by kernel_rfl) (fun oi hoi => ?_) rfl
        rotate_left
        simp only [List.getElem?_toArray, List.getElem?_cons_succ, List.getElem?_cons_zero] at hoi
        cases hoi
        refine ⟨fun _ _ _ h => h, Or.inl ⟨by rfl, ?_⟩, by assumption, ?_⟩
        · (intro w hSw; (try dsimp only at hSw); go_simp; all_goals with_reducible rfl)
        try simp only [Act.put, List.setIfInBounds_toArray, List.set_cons_zero, List.set_cons_succ]
        refine C.tk_take (i := 4) (v := ?_) (by kernel_rfl) (by kernel_rfl) (by kernel_rfl) (fun oi hoi => ?_) rfl
        rotate_left
        simp only [List.getElem?_toArray, List.getElem?_cons_succ, List.getElem?_cons_zero] at hoi
        cases hoi
        refine ⟨fun _ _ _ h => h, Or.inl ⟨by rfl, ?_⟩, by assumption, ?_⟩
        · (intro w hSw; (try dsimp only at hSw); go_simp; all_goals with_reducible rfl)
        try simp only [Act.put, List.setIfInBounds_toArray, List.set_cons_zero, List.set_cons_succ]
        refine C.tk_take (i := 5) (v := ?_) (by kernel_rfl) (by kernel_rfl) (by kernel_rfl) (fun oi hoi => ?_) rfl
        rotate_left
        simp only [List.getElem?_toArray, List.getElem?_cons_succ, List.getElem?_cons_zero] at hoi
        cases hoi
        refine ⟨fun _ _ _ h => h, Or.inl ⟨by rfl, ?_⟩, by assumption, ?_⟩
        · (intro w hSw; (try dsimp only at hSw); go_simp; all_goals with_reducible rfl)
        try simp only [Act.put, List.setIfInBounds_toArray, List.set_cons_zero, List.set_cons_succ]
        refine C.tk_take (i := 9) (v := ?_) (by kernel_rfl) (by kernel_rfl) (by kernel_rfl) (fun oi hoi => ?_) rfl
        rotate_left
        simp only [List.getElem?_toArray, List.getElem?_cons_succ, List.getElem?_cons_zero] at hoi
        cases hoi
        refine ⟨fun _ _ _ h => h, Or.inl ⟨by rfl, ?_⟩, by assumption, ?_⟩
        · (intro w hSw; (try dsimp only at hSw); go_simp; all_goals with_reducible rfl)
        try simp only [Act.put, List.setIfInBounds_toArray, List.set_cons_zero, List.set_cons_succ]
        refine C.tk_take (i := 10) (v := ?_) (by kernel_rfl) (by kernel_rfl) (by kernel_rfl) (fun oi hoi => ?_) rfl
        rotate_left
        simp only [List.getElem?_toArray, List.getElem?_cons_succ, List.getElem?_cons_zero] at hoi
        cases hoi
        refine ⟨fun _ _ _ h => h, Or.inl ⟨by rfl, ?_⟩, by assumption, ?_⟩
        · (intro w hSw; (try dsimp only at hSw); go_simp; all_goals with_reducible rfl)
        try simp only [Act.put, List.setIfInBounds_toArray, List.set_cons_zero, List.set_cons_succ]
        refine C.tk_take (i := 11) (v := ?_) (by kernel_rfl) (by kernel_rfl) (by kernel_rfl) (fun oi hoi => ?_) rfl
        rotate_left
        simp only [List.getElem?_toArray, List.getElem?_cons_succ, List.getElem?_cons_zero] at hoi
        cases hoi
        refine ⟨fun _ _ _ h => h, Or.inl ⟨by rfl, ?_⟩, by assumption, ?_⟩
        · (intro w hSw; (try dsimp only at hSw); go_simp; all_goals with_reducible rfl)
        try simp only [Act.put, List.setIfInBounds_toArray, List.set_cons_zero, List.set_cons_succ]
        refine C.tk_take (i := 12) (v := ?_) (by kernel_rfl) (by kernel_rfl) (by kernel_rfl) (fun oi hoi => ?_) rfl
        rotate_left
        simp only [List.getElem?_toArray, List.getElem?_cons_succ, List.getElem?_cons_zero] at hoi
        cases hoi
        refine ⟨fun _ _ _ h => h, Or.inl ⟨by rfl, ?_⟩, by assumption, ?_⟩
        · (intro w hSw; (try dsimp only at hSw); go_simp; all_goals with_reducible rfl)
        try simp only [Act.put, List.setIfInBounds_toArray, List.set_cons_zero, List.set_cons_succ]
        refine C.tk_take (i := 13) (v := ?_) (by kernel_rfl) (by kernel_rfl) (by kernel_rfl) (fun oi hoi => ?_) rfl
        rotate_left
        simp only [List.getElem?_toArray, List.getElem?_cons_succ, List.getElem?_cons_zero] at hoi
        cases hoi
        refine ⟨fun _ _ _ h => h, Or.inl ⟨by rfl, ?_⟩, by assumption, ?_⟩
        · (intro w hSw; (try dsimp only at hSw); go_simp; all_goals with_reducible rfl)
        try simp only [Act.put, List.setIfInBounds_toArray, List.set_cons_zero, List.set_cons_succ]
        refine C.tk_take (i := 17) (v := ?_) (by kernel_rfl) (by kernel_rfl) (by kernel_rfl) (fun oi hoi => ?_) rfl
        rotate_left
        simp only [List.getElem?_toArray, List.getElem?_cons_succ, List.getElem?_cons_zero] at hoi
        cases hoi
        refine ⟨fun _ _ _ h => h, Or.inl ⟨by rfl, ?_⟩, by assumption, ?_⟩
        · (intro w hSw; (try dsimp only at hSw); go_simp; all_goals with_reducible rfl)
        try simp only [Act.put, List.setIfInBounds_toArray, List.set_cons_zero, List.set_cons_succ]
        refine C.tk_take (i := 18) (v := ?_) (by kernel_rfl) (by kernel_rfl) (by kernel_rfl) (fun oi hoi => ?_) rfl
        rotate_left
        simp only [List.getElem?_toArray, List.getElem?_cons_succ, List.getElem?_cons_zero] at hoi
        cases hoi
        refine ⟨fun _ _ _ h => h, Or.inl ⟨by rfl, ?_⟩, by assumption, ?_⟩
        · (intro w hSw; (try dsimp only at hSw); go_simp; all_goals with_reducible rfl)
        try simp only [Act.put, List.setIfInBounds_toArray, List.set_cons_zero, List.set_cons_succ]
        refine C.tk_take (i := 22) (v := ?_) (by kernel_rfl) (by kernel_rfl) (by kernel_rfl) (fun oi hoi => ?_) rfl
        rotate_left
        simp only [List.getElem?_toArray, List.getElem?_cons_succ, List.getElem?_cons_zero] at hoi
        cases hoi
        refine ⟨fun _ _ _ h => h, Or.inl ⟨by rfl, ?_⟩, by assumption, ?_⟩
        · (intro w hSw; (try dsimp only at hSw); go_simp; all_goals with_reducible rfl)
        try simp only [Act.put, List.setIfInBounds_toArray, List.set_cons_zero, List.set_cons_succ]
        refine C.tk_take (i := 23) (v := ?_) (by kernel_rfl) (by kernel_rfl) (by kernel_rfl) (fun oi hoi => ?_) rfl
        rotate_left
        simp only [List.getElem?_toArray, List.getElem?_cons_succ, List.getElem?_cons_zero] at hoi
        cases hoi
        refine ⟨fun _ _ _ h => h, Or.inl ⟨by rfl, ?_⟩, by assumption, ?_⟩
        · (intro w hSw; (try dsimp only at hSw); go_simp; all_goals with_reducible rfl)
        try simp only [Act.put, List.setIfInBounds_toArray, List.set_cons_zero, List.set_cons_succ]
        refine C.tk_take (i := 27) (v := ?_) (by kernel_rfl) (by kernel_rfl) (by kernel_rfl) (fun oi hoi => ?_) rfl
        rotate_left
        simp only [List.getElem?_toArray, List.getElem?_cons_succ, List.getElem?_cons_zero] at hoi
        cases hoi
        refine ⟨fun _ _ _ h => h, Or.inl ⟨by rfl, ?_⟩, by assumption, ?_⟩
        · (intro w hSw; (try dsimp only at hSw); go_simp; all_goals with_reducible rfl)
        try simp only [Act.put, List.setIfInBounds_toArray, List.set_cons_zero, List.set_cons_succ]
        refine wpAnyH_ready (rs := [6]) (by kernel_rfl) (by simp) ?_
        refine AllReadyH.cons rfl (fun K hK => ?_) AllReadyH.nil
        rw [if_pos (by rfl)]
        go_simp
        go_at_call 18
        refine (word_Text.calls m1 (T m1) _ (hT m1 (by omega)).1).mono ?_
        rintro e u1 ⟨rfl, hb⟩
        have hS := below_step (below_drew (Below.refl W1.heap.size W1)) hb
        have HY1 := Aside0.mk (blk_below HY0.out hS)
        have HV1 := Aside0.mk (RbIs.below HV0.out hS)
        have HD1 := Aside0.mk (below_step HD0.out hS)
        have hS1 : u1.cell? ⟨B5, 0, none⟩ = some (.string m0) ∧ u1.cell? ⟨B5, 1, none⟩ = some (.int .i64 m1) ∧ u1.cell? ⟨B5, 2, none⟩ = some (.int .i64 m2) ∧ u1.cell? ⟨B5, 3, none⟩ = some (.int .i64 m3) ∧ u1.cell? ⟨B5, 4, none⟩ = some (.int .i64 m4) := ⟨blk_cell HY1.out 0, blk_cell HY1.out 1, blk_cell HY1.out 2, blk_cell HY1.out 3, blk_cell HY1.out 4⟩
        clear hb hS
        go_wp2
        refine hK.out _ _ hS1 (fun hHeld => ?_)
        clear hK
        try simp only [Act.put, List.setIfInBounds_toArray, List.set_cons_zero, List.set_cons_succ]
        refine C.tk_take (i := 7) (v := ?_) (by kernel_rfl) (by kernel_rfl) (by kernel_rfl) (fun oi hoi => ?_) rfl
        rotate_left
        simp only [List.getElem?_toArray, List.getElem?_cons_succ, List.getElem?_cons_zero] at hoi
        cases hoi
        refine ⟨fun _ _ _ h => h, Or.inl ⟨by rfl, ?_⟩, by assumption, ?_⟩
        · (intro w hSw; (try dsimp only at hSw); go_simp; all_goals with_reducible rfl)
        try simp only [Act.put, List.setIfInBounds_toArray, List.set_cons_zero, List.set_cons_succ]
        refine C.tk_take (i := 8) (v := ?_) (by kernel_rfl) (by kernel_rfl) (by kernel_rfl) (fun oi hoi => ?_) rfl
        rotate_left
        simp only [List.getElem?_toArray, List.getElem?_cons_succ, List.getElem?_cons_zero] at hoi
        cases hoi
        refine ⟨fun _ _ _ h => h, Or.inl ⟨by rfl, ?_⟩, by assumption, ?_⟩
        · (intro w hSw; (try dsimp only at hSw); go_simp; all_goals with_reducible rfl)
        try simp only [Act.put, List.setIfInBounds_toArray, List.set_cons_zero, List.set_cons_succ]
        refine wpAnyH_ready (rs := [14]) (by kernel_rfl) (by simp) ?_
        refine AllReadyH.cons rfl (fun K hK => ?_) AllReadyH.nil
        rw [if_pos (by rfl)]
        go_simp
        go_at_call 18
        refine (word_Text.calls (m1 + m2) (T (m1 + m2)) _ (hT (m1 + m2) (by omega)).1).mono ?_
        rintro e u2 ⟨rfl, hb⟩
        have hS := hb
        have HY2 := Aside0.mk (blk_below HY1.out hS)
        have HV2 := Aside0.mk (RbIs.below HV1.out hS)
        have HD2 := Aside0.mk (below_step HD1.out hS)
        have hS2 : u2.cell? ⟨B5, 0, none⟩ = some (.string m0) ∧ u2.cell? ⟨B5, 1, none⟩ = some (.int .i64 m1) ∧ u2.cell? ⟨B5, 2, none⟩ = some (.int .i64 m2) ∧ u2.cell? ⟨B5, 3, none⟩ = some (.int .i64 m3) ∧ u2.cell? ⟨B5, 4, none⟩ = some (.int .i64 m4) := ⟨blk_cell HY2.out 0, blk_cell HY2.out 1, blk_cell HY2.out 2, blk_cell HY2.out 3, blk_cell HY2.out 4⟩
        clear hb hS
        go_wp2
        refine hK.out _ _ hS2 (fun hHeld => ?_)
        clear hK
        try simp only [Act.put, List.setIfInBounds_toArray, List.set_cons_zero, List.set_cons_succ]
        refine C.tk_take (i := 15) (v := ?_) (by kernel_rfl) (by kernel_rfl) (by kernel_rfl) (fun oi hoi => ?_) rfl
        rotate_left
        simp only [List.getElem?_toArray, List.getElem?_cons_succ, List.getElem?_cons_zero] at hoi
        cases hoi
        refine ⟨fun _ _ _ h => h, Or.inl ⟨by rfl, ?_⟩, by assumption, ?_⟩
        · (intro w hSw; (try dsimp only at hSw); go_simp; all_goals with_reducible rfl)
        try simp only [Act.put, List.setIfInBounds_toArray, List.set_cons_zero, List.set_cons_succ]
        refine C.tk_take (i := 16) (v := ?_) (by kernel_rfl) (by kernel_rfl) (by kernel_rfl) (fun oi hoi => ?_) rfl
        rotate_left
        simp only [List.getElem?_toArray, List.getElem?_cons_succ, List.getElem?_cons_zero] at hoi
        cases hoi
        refine ⟨fun _ _ _ h => h, Or.inl ⟨by rfl, ?_⟩, by assumption, ?_⟩
        · (intro w hSw; (try dsimp only at hSw); go_simp; all_goals with_reducible rfl)
        try simp only [Act.put, List.setIfInBounds_toArray, List.set_cons_zero, List.set_cons_succ]
        refine wpAnyH_ready (rs := [19]) (by kernel_rfl) (by simp) ?_
        refine AllReadyH.cons rfl (fun K hK => ?_) AllReadyH.nil
        rw [if_pos (by rfl)]
        go_simp
        go_at_call 18
        refine (word_Text.calls m3 (T m3) _ (hT m3 (by omega)).1).mono ?_
        rintro e u3 ⟨rfl, hb⟩
        have hS := hb
        have HY3 := Aside0.mk (blk_below HY2.out hS)
        have HV3 := Aside0.mk (RbIs.below HV2.out hS)
        have HD3 := Aside0.mk (below_step HD2.out hS)
        have hS3 : u3.cell? ⟨B5, 0, none⟩ = some (.string m0) ∧ u3.cell? ⟨B5, 1, none⟩ = some (.int .i64 m1) ∧ u3.cell? ⟨B5, 2, none⟩ = some (.int .i64 m2) ∧ u3.cell? ⟨B5, 3, none⟩ = some (.int .i64 m3) ∧ u3.cell? ⟨B5, 4, none⟩ = some (.int .i64 m4) := ⟨blk_cell HY3.out 0, blk_cell HY3.out 1, blk_cell HY3.out 2, blk_cell HY3.out 3, blk_cell HY3.out 4⟩
        clear hb hS
        go_wp2
        refine hK.out _ _ hS3 (fun hHeld => ?_)
        clear hK
        try simp only [Act.put, List.setIfInBounds_toArray, List.set_cons_zero, List.set_cons_succ]
        refine C.tk_take (i := 20) (v := ?_) (by kernel_rfl) (by kernel_rfl) (by kernel_rfl) (fun oi hoi => ?_) rfl
        rotate_left
        simp only [List.getElem?_toArray, List.getElem?_cons_succ, List.getElem?_cons_zero] at hoi
        cases hoi
        refine ⟨fun _ _ _ h => h, Or.inl ⟨by rfl, ?_⟩, by assumption, ?_⟩
        · (intro w hSw; (try dsimp only at hSw); go_simp; all_goals with_reducible rfl)
        try simp only [Act.put, List.setIfInBounds_toArray, List.set_cons_zero, List.set_cons_succ]
        refine C.tk_take (i := 21) (v := ?_) (by kernel_rfl) (by kernel_rfl) (by kernel_rfl) (fun oi hoi => ?_) rfl
        rotate_left
        simp only [List.getElem?_toArray, List.getElem?_cons_succ, List.getElem?_cons_zero] at hoi
        cases hoi
        refine ⟨fun _ _ _ h => h, Or.inl ⟨by rfl, ?_⟩, by assumption, ?_⟩
        · (intro w hSw; (try dsimp only at hSw); go_simp; all_goals with_reducible rfl)
        try simp only [Act.put, List.setIfInBounds_toArray, List.set_cons_zero, List.set_cons_succ]
        refine wpAnyH_ready (rs := [24]) (by kernel_rfl) (by simp) ?_
        refine AllReadyH.cons rfl (fun K hK => ?_) AllReadyH.nil
        rw [if_pos (by rfl)]
        go_simp
        go_at_call 18
        refine (word_Text.calls m4 (T m4) _ (hT m4 (by omega)).1).mono ?_
        rintro e u4 ⟨rfl, hb⟩
        have hS := hb
        have HY4 := Aside0.mk (blk_below HY3.out hS)
        have HV4 := Aside0.mk (RbIs.below HV3.out hS)
        have HD4 := Aside0.mk (below_step HD3.out hS)
        have hS4 : u4.cell? ⟨B5, 0, none⟩ = some (.string m0) ∧ u4.cell? ⟨B5, 1, none⟩ = some (.int .i64 m1) ∧ u4.cell? ⟨B5, 2, none⟩ = some (.int .i64 m2) ∧ u4.cell? ⟨B5, 3, none⟩ = some (.int .i64 m3) ∧ u4.cell? ⟨B5, 4, none⟩ = some (.int .i64 m4) := ⟨blk_cell HY4.out 0, blk_cell HY4.out 1, blk_cell HY4.out 2, blk_cell HY4.out 3, blk_cell HY4.out 4⟩
        clear hb hS
        go_wp2
        refine hK.out _ _ hS4 (fun hHeld => ?_)
        clear hK
        try simp only [Act.put, List.setIfInBounds_toArray, List.set_cons_zero, List.set_cons_succ]
        refine C.tk_take (i := 25) (v := ?_) (by kernel_rfl) (by kernel_rfl) (by kernel_rfl) (fun oi hoi => ?_) rfl
        rotate_left
        simp only [List.getElem?_toArray, List.getElem?_cons_succ, List.getElem?_cons_zero] at hoi
        cases hoi
        refine ⟨fun _ _ _ h => h, Or.inl ⟨by rfl, ?_⟩, by assumption, ?_⟩
        · (intro w hSw; (try dsimp only at hSw); go_simp; all_goals with_reducible rfl)
        try simp only [Act.put, List.setIfInBounds_toArray, List.set_cons_zero, List.set_cons_succ]
        refine C.tk_take (i := 26) (v := ?_) (by kernel_rfl) (by kernel_rfl) (by kernel_rfl) (fun oi hoi => ?_) rfl
        rotate_left
        simp only [List.getElem?_toArray, List.getElem?_cons_succ, List.getElem?_cons_zero] at hoi
        cases hoi
        refine ⟨fun _ _ _ h => h, Or.inl ⟨by rfl, ?_⟩, by assumption, ?_⟩
        · (intro w hSw; (try dsimp only at hSw); go_simp; all_goals with_reducible rfl)
        try simp only [Act.put, List.setIfInBounds_toArray, List.set_cons_zero, List.set_cons_succ]
        refine wpAnyH_ready (rs := [28]) (by kernel_rfl) (by simp) ?_
        refine AllReadyH.cons rfl (fun K hK => ?_) AllReadyH.nil
        rw [if_pos (by rfl)]
        go_simp
        go_at_call 18
        refine (word_Text.calls n (T n) _ (hT n (by omega)).1).mono ?_
        rintro e u5 ⟨rfl, hb⟩
        have hS := hb
        have HY5 := Aside0.mk (blk_below HY4.out hS)
        have HV5 := Aside0.mk (RbIs.below HV4.out hS)
        have HD5 := Aside0.mk (below_step HD4.out hS)
        have hS5 : u5.cell? ⟨B5, 0, none⟩ = some (.string m0) ∧ u5.cell? ⟨B5, 1, none⟩ = some (.int .i64 m1) ∧ u5.cell? ⟨B5, 2, none⟩ = some (.int .i64 m2) ∧ u5.cell? ⟨B5, 3, none⟩ = some (.int .i64 m3) ∧ u5.cell? ⟨B5, 4, none⟩ = some (.int .i64 m4) := ⟨blk_cell HY5.out 0, blk_cell HY5.out 1, blk_cell HY5.out 2, blk_cell HY5.out 3, blk_cell HY5.out 4⟩
        clear hb hS
        go_wp2
        refine hK.out _ _ hS5 (fun hHeld => ?_)
        clear hK
        try simp only [Act.put, List.setIfInBounds_toArray, List.set_cons_zero, List.set_cons_succ]
        refine C.tk_take (i := 29) (v := ?_) (by kernel_rfl) (by kernel_rfl) (by kernel_rfl) (fun oi hoi => ?_) rfl
        rotate_left
        simp only [List.getElem?_toArray, List.getElem?_cons_succ, List.getElem?_cons_zero] at hoi
        cases hoi
        refine ⟨fun _ _ _ h => h, Or.inl ⟨by rfl, ?_⟩, by assumption, ?_⟩
        · (intro w hSw; (try dsimp only at hSw); go_simp; all_goals with_reducible rfl)
        try simp only [Act.put, List.setIfInBounds_toArray, List.set_cons_zero, List.set_cons_succ]
        refine C.tk_take (i := 30) (v := ?_) (by kernel_rfl) (by kernel_rfl) (by kernel_rfl) (fun oi hoi => ?_) rfl
        rotate_left
        simp only [List.getElem?_toArray, List.getElem?_cons_succ, List.getElem?_cons_zero] at hoi
        cases hoi
        refine ⟨fun _ _ _ h => h, Or.inl ⟨by rfl, ?_⟩, by assumption, ?_⟩
        · (intro w hSw; (try dsimp only at hSw); go_simp; all_goals with_reducible rfl)
        try simp only [Act.put, List.setIfInBounds_toArray, List.set_cons_zero, List.set_cons_succ]
        refine wpAnyH_ready (rs := [31]) (by kernel_rfl) (by simp) ?_
        refine AllReadyH.cons rfl (fun K hK => ?_) AllReadyH.nil
        rw [if_pos (by rfl)]
        go_simp
        go_at_call 29
        refine (rb_write _ HV5.out (by show _ + (rp_line T ⟨m0, m1, m2, m3, m4⟩ n).size ≤ _; have := HLS.out; have := HSS.out; omega) (Nat.le_trans HWR.out HD5.out.size)).mono ?_
        rintro e u9 ⟨rfl, h1, hb, hk⟩
        have hk9 := hk _ _ HY5.out (fun hh => by injection hh with hh; have := HLT.out; have := HB5.out; omega) (by intro c fz hh; cases hh)
        have HV9 := Aside0.mk h1
        have HB9 := Aside0.mk ((below_then HBW.out HWR.out HD5.out).trans hb)
        have hS9 : u9.cell? ⟨B5, 0, none⟩ = some (.string m0) ∧ u9.cell? ⟨B5, 1, none⟩ = some (.int .i64 m1) ∧ u9.cell? ⟨B5, 2, none⟩ = some (.int .i64 m2) ∧ u9.cell? ⟨B5, 3, none⟩ = some (.int .i64 m3) ∧ u9.cell? ⟨B5, 4, none⟩ = some (.int .i64 m4) := ⟨blk_cell hk9 0, blk_cell hk9 1, blk_cell hk9 2, blk_cell hk9 3, blk_cell hk9 4⟩
        clear h1 hb hk hk9
        go_wp2
        refine hK.out _ _ hS9 (fun hHeld => ?_)
        clear hK
        try simp only [Act.put, List.setIfInBounds_toArray, List.set_cons_zero, List.set_cons_succ]
        refine wpAnyH_done (by kernel_rfl) ?_ _
        go_wp2
        go_roundg (ms.length - k)
        case measure => have := HI.out; have := HH.out; omega
        case rel => exact ⟨k + 1, (by first | rfl | (simp; done)), ⟨⟨by have := HI.out; have := HH.out; omega, by have := HH.out; omega⟩⟩, ⟨by rw [HNX.out]; exact HV9.out⟩, HB9⟩
      · have hn0 : n = 0 := by rw [← hn, List.getD_eq_getElem?_getD, List.getElem?_eq_none (by omega)]; rfl
        subst hn0
        have k4 : ¬ (k : Int) < (ts.length : Int) := by omega
        have k4b : decide (k < ts.length) = false := decide_eq_false hkt
        clear hn hkt HN
        go_wp2
        rw [← HW1.out, HB5.out]
        clear c14 cx0 cx1 cx2 cx3 cx4
        refine wp_region_held_drew (S := fun w' => w'.cell? ⟨B5, 0, none⟩ = some (.string m0) ∧ w'.cell? ⟨B5, 1, none⟩ = some (.int .i64 m1) ∧ w'.cell? ⟨B5, 2, none⟩ = some (.int .i64 m2) ∧ w'.cell? ⟨B5, 3, none⟩ = some (.int .i64 m3) ∧ w'.cell? ⟨B5, 4, none⟩ = some (.int .i64 m4)) (by kernel_rfl) (show W1.drew.cell? ⟨B5, 0, none⟩ = some (.string m0) ∧ W1.drew.cell? ⟨B5, 1, none⟩ = some (.int .i64 m1) ∧ W1.drew.cell? ⟨B5, 2, none⟩ = some (.int .i64 m2) ∧ W1.drew.cell? ⟨B5, 3, none⟩ = some (.int .i64 m3) ∧ W1.drew.cell? ⟨B5, 4, none⟩ = some (.int .i64 m4) from ⟨blk_cell (blk_drew HY0.out) 0, blk_cell (blk_drew HY0.out) 1, blk_cell (blk_drew HY0.out) 2, blk_cell (blk_drew HY0.out) 3, blk_cell (blk_drew HY0.out) 4⟩) (fun hHeld => ?_)
        refine C.tk_take (i := 0) (v := ?_) (by kernel_rfl) (by kernel_rfl) (by kernel_rfl) (fun oi hoi => ?_) rfl
        rotate_left
        simp only [List.getElem?_toArray, List.getElem?_cons_succ, List.getElem?_cons_zero] at hoi
        cases hoi
        refine ⟨fun _ _ _ h => h, Or.inl ⟨by rfl, ?_⟩, by assumption, ?_⟩
        · (intro w hSw; (try dsimp only at hSw); go_simp; all_goals with_reducible rfl)
        try simp only [Act.put, List.setIfInBounds_toArray, List.set_cons_zero, List.set_cons_succ]
        refine C.tk_take (i := 1) (v := ?_) (by kernel_rfl) (by kernel_rfl) (by kernel_rfl) (fun oi hoi => ?_) rfl
        rotate_left
        simp only [List.getElem?_toArray, List.getElem?_cons_succ, List.getElem?_cons_zero] at hoi
        cases hoi
        refine ⟨fun _ _ _ h => h, Or.inl ⟨by rfl, ?_⟩, by assumption, ?_⟩
        · (intro w hSw; (try dsimp only at hSw); go_simp; all_goals with_reducible rfl)
        try simp only [Act.put, List.setIfInBounds_toArray, List.set_cons_zero, List.set_cons_succ]
        refine C.tk_take (i := 2) (v := ?_) (by kernel_rfl) (by kernel_rfl) (by kernel_rfl) (fun oi hoi => ?_) rfl
        rotate_left
        simp only [List.getElem?_toArray, List.getElem?_cons_succ, List.getElem?_cons_zero] at hoi
        cases hoi
        refine ⟨fun _ _ _ h => h, Or.inl ⟨by rfl, ?_⟩, by assumption, ?_⟩
        · (intro w hSw; (try dsimp only at hSw); go_simp; all_goals with_reducible rfl)
        try simp only [Act.put, List.setIfInBounds_toArray, List.set_cons_zero, List.set_cons_succ]
        refine C.tk_take (i := 3) (v := ?_) (by kernel_rfl) (by kernel_rfl) (by kernel_rfl) (fun oi hoi => ?_) rfl
        rotate_left
        simp only [List.getElem?_toArray, List.getElem?_cons_succ, List.getElem?_cons_zero] at hoi
        cases hoi
        refine ⟨fun _ _ _ h => h, Or.inl ⟨by rfl, ?_⟩, by assumption, ?_⟩
        · (intro w hSw; (try dsimp only at hSw); go_simp; all_goals with_reducible rfl)
        try simp only [Act.put, List.setIfInBounds_toArray, List.set_cons_zero, List.set_cons_succ]
        refine C.tk_take (i := 4) (v := ?_) (by kernel_rfl) (by kernel_rfl) (by kernel_rfl) (fun oi hoi => ?_) rfl
        rotate_left
        simp only [List.getElem?_toArray, List.getElem?_cons_succ, List.getElem?_cons_zero] at hoi
        cases hoi
        refine ⟨fun _ _ _ h => h, Or.inl ⟨by rfl, ?_⟩, by assumption, ?_⟩
        · (intro w hSw; (try dsimp only at hSw); go_simp; all_goals with_reducible rfl)
        try simp only [Act.put, List.setIfInBounds_toArray, List.set_cons_zero, List.set_cons_succ]
        refine C.tk_take (i := 5) (v := ?_) (by kernel_rfl) (by kernel_rfl) (by kernel_rfl) (fun oi hoi => ?_) rfl
        rotate_left
        simp only [List.getElem?_toArray, List.getElem?_cons_succ, List.getElem?_cons_zero] at hoi
        cases hoi
        refine ⟨fun _ _ _ h => h, Or.inl ⟨by rfl, ?_⟩, by assumption, ?_⟩
        · (intro w hSw; (try dsimp only at hSw); go_simp; all_goals with_reducible rfl)
        try simp only [Act.put, List.setIfInBounds_toArray, List.set_cons_zero, List.set_cons_succ]
        refine C.tk_take (i := 9) (v := ?_) (by kernel_rfl) (by kernel_rfl) (by kernel_rfl) (fun oi hoi => ?_) rfl
        rotate_left
        simp only [List.getElem?_toArray, List.getElem?_cons_succ, List.getElem?_cons_zero] at hoi
        cases hoi
        refine ⟨fun _ _ _ h => h, Or.inl ⟨by rfl, ?_⟩, by assumption, ?_⟩
        · (intro w hSw; (try dsimp only at hSw); go_simp; all_goals with_reducible rfl)
        try simp only [Act.put, List.setIfInBounds_toArray, List.set_cons_zero, List.set_cons_succ]
        refine C.tk_take (i := 10) (v := ?_) (by kernel_rfl) (by kernel_rfl) (by kernel_rfl) (fun oi hoi => ?_) rfl
        rotate_left
        simp only [List.getElem?_toArray, List.getElem?_cons_succ, List.getElem?_cons_zero] at hoi
        cases hoi
        refine ⟨fun _ _ _ h => h, Or.inl ⟨by rfl, ?_⟩, by assumption, ?_⟩
        · (intro w hSw; (try dsimp only at hSw); go_simp; all_goals with_reducible rfl)
        try simp only [Act.put, List.setIfInBounds_toArray, List.set_cons_zero, List.set_cons_succ]
        refine C.tk_take (i := 11) (v := ?_) (by kernel_rfl) (by kernel_rfl) (by kernel_rfl) (fun oi hoi => ?_) rfl
        rotate_left
        simp only [List.getElem?_toArray, List.getElem?_cons_succ, List.getElem?_cons_zero] at hoi
        cases hoi
        refine ⟨fun _ _ _ h => h, Or.inl ⟨by rfl, ?_⟩, by assumption, ?_⟩
        · (intro w hSw; (try dsimp only at hSw); go_simp; all_goals with_reducible rfl)
        try simp only [Act.put, List.setIfInBounds_toArray, List.set_cons_zero, List.set_cons_succ]
        refine C.tk_take (i := 12) (v := ?_) (by kernel_rfl) (by kernel_rfl) (by kernel_rfl) (fun oi hoi => ?_) rfl
        rotate_left
        simp only [List.getElem?_toArray, List.getElem?_cons_succ, List.getElem?_cons_zero] at hoi
        cases hoi
        refine ⟨fun _ _ _ h => h, Or.inl ⟨by rfl, ?_⟩, by assumption, ?_⟩
        · (intro w hSw; (try dsimp only at hSw); go_simp; all_goals with_reducible rfl)
        try simp only [Act.put, List.setIfInBounds_toArray, List.set_cons_zero, List.set_cons_succ]
        refine C.tk_take (i := 13) (v := ?_) (by kernel_rfl) (by kernel_rfl) (by kernel_rfl) (fun oi hoi => ?_) rfl
        rotate_left
        simp only [List.getElem?_toArray, List.getElem?_cons_succ, List.getElem?_cons_zero] at hoi
        cases hoi
        refine ⟨fun _ _ _ h => h, Or.inl ⟨by rfl, ?_⟩, by assumption, ?_⟩
        · (intro w hSw; (try dsimp only at hSw); go_simp; all_goals with_reducible rfl)
        try simp only [Act.put, List.setIfInBounds_toArray, List.set_cons_zero, List.set_cons_succ]
        refine C.tk_take (i := 17) (v := ?_) (by kernel_rfl) (by kernel_rfl) (by kernel_rfl) (fun oi hoi => ?_) rfl
        rotate_left
        simp only [List.getElem?_toArray, List.getElem?_cons_succ, List.getElem?_cons_zero] at hoi
        cases hoi
        refine ⟨fun _ _ _ h => h, Or.inl ⟨by rfl, ?_⟩, by assumption, ?_⟩
        · (intro w hSw; (try dsimp only at hSw); go_simp; all_goals with_reducible rfl)
        try simp only [Act.put, List.setIfInBounds_toArray, List.set_cons_zero, List.set_cons_succ]
        refine C.tk_take (i := 18) (v := ?_) (by kernel_rfl) (by kernel_rfl) (by kernel_rfl) (fun oi hoi => ?_) rfl
        rotate_left
        simp only [List.getElem?_toArray, List.getElem?_cons_succ, List.getElem?_cons_zero] at hoi
        cases hoi
        refine ⟨fun _ _ _ h => h, Or.inl ⟨by rfl, ?_⟩, by assumption, ?_⟩
        · (intro w hSw; (try dsimp only at hSw); go_simp; all_goals with_reducible rfl)
        try simp only [Act.put, List.setIfInBounds_toArray, List.set_cons_zero, List.set_cons_succ]
        refine C.tk_take (i := 22) (v := ?_) (by kernel_rfl) (by kernel_rfl) (by kernel_rfl) (fun oi hoi => ?_) rfl
        rotate_left
        simp only [List.getElem?_toArray, List.getElem?_cons_succ, List.getElem?_cons_zero] at hoi
        cases hoi
        refine ⟨fun _ _ _ h => h, Or.inl ⟨by rfl, ?_⟩, by assumption, ?_⟩
        · (intro w hSw; (try dsimp only at hSw); go_simp; all_goals with_reducible rfl)
        try simp only [Act.put, List.setIfInBounds_toArray, List.set_cons_zero, List.set_cons_succ]
        refine C.tk_take (i := 23) (v := ?_) (by kernel_rfl) (by kernel_rfl) (by kernel_rfl) (fun oi hoi => ?_) rfl
        rotate_left
        simp only [List.getElem?_toArray, List.getElem?_cons_succ, List.getElem?_cons_zero] at hoi
        cases hoi
        refine ⟨fun _ _ _ h => h, Or.inl ⟨by rfl, ?_⟩, by assumption, ?_⟩
        · (intro w hSw; (try dsimp only at hSw); go_simp; all_goals with_reducible rfl)
        try simp only [Act.put, List.setIfInBounds_toArray, List.set_cons_zero, List.set_cons_succ]
        refine C.tk_take (i := 27) (v := ?_) (by kernel_rfl) (by kernel_rfl) (by kernel_rfl) (fun oi hoi => ?_) rfl
        rotate_left
        simp only [List.getElem?_toArray, List.getElem?_cons_succ, List.getElem?_cons_zero] at hoi
        cases hoi
        refine ⟨fun _ _ _ h => h, Or.inl ⟨by rfl, ?_⟩, by assumption, ?_⟩
        · (intro w hSw; (try dsimp only at hSw); go_simp; all_goals with_reducible rfl)
        try simp only [Act.put, List.setIfInBounds_toArray, List.set_cons_zero, List.set_cons_succ]
        refine wpAnyH_ready (rs := [6]) (by kernel_rfl) (by simp) ?_
        refine AllReadyH.cons rfl (fun K hK => ?_) AllReadyH.nil
        rw [if_pos (by rfl)]
        go_simp
        go_at_call 18
        refine (word_Text.calls m1 (T m1) _ (hT m1 (by omega)).1).mono ?_
        rintro e u1 ⟨rfl, hb⟩
        have hS := below_step (below_drew (Below.refl W1.heap.size W1)) hb
        have HY1 := Aside0.mk (blk_below HY0.out hS)
        have HV1 := Aside0.mk (RbIs.below HV0.out hS)
        have HD1 := Aside0.mk (below_step HD0.out hS)
        have hS1 : u1.cell? ⟨B5, 0, none⟩ = some (.string m0) ∧ u1.cell? ⟨B5, 1, none⟩ = some (.int .i64 m1) ∧ u1.cell? ⟨B5, 2, none⟩ = some (.int .i64 m2) ∧ u1.cell? ⟨B5, 3, none⟩ = some (.int .i64 m3) ∧ u1.cell? ⟨B5, 4, none⟩ = some (.int .i64 m4) := ⟨blk_cell HY1.out 0, blk_cell HY1.out 1, blk_cell HY1.out 2, blk_cell HY1.out 3, blk_cell HY1.out 4⟩
        clear hb hS
        go_wp2
        refine hK.out _ _ hS1 (fun hHeld => ?_)
        clear hK
        try simp only [Act.put, List.setIfInBounds_toArray, List.set_cons_zero, List.set_cons_succ]
        refine C.tk_take (i := 7) (v := ?_) (by kernel_rfl) (by kernel_rfl) (by kernel_rfl) (fun oi hoi => ?_) rfl
        rotate_left
        simp only [List.getElem?_toArray, List.getElem?_cons_succ, List.getElem?_cons_zero] at hoi
        cases hoi
        refine ⟨fun _ _ _ h => h, Or.inl ⟨by rfl, ?_⟩, by assumption, ?_⟩
        · (intro w hSw; (try dsimp only at hSw); go_simp; all_goals with_reducible rfl)
        try simp only [Act.put, List.setIfInBounds_toArray, List.set_cons_zero, List.set_cons_succ]
        refine C.tk_take (i := 8) (v := ?_) (by kernel_rfl) (by kernel_rfl) (by kernel_rfl) (fun oi hoi => ?_) rfl
        rotate_left
        simp only [List.getElem?_toArray, List.getElem?_cons_succ, List.getElem?_cons_zero] at hoi
        cases hoi
        refine ⟨fun _ _ _ h => h, Or.inl ⟨by rfl, ?_⟩, by assumption, ?_⟩
        · (intro w hSw; (try dsimp only at hSw); go_simp; all_goals with_reducible rfl)
        try simp only [Act.put, List.setIfInBounds_toArray, List.set_cons_zero, List.set_cons_succ]
        refine wpAnyH_ready (rs := [14]) (by kernel_rfl) (by simp) ?_
        refine AllReadyH.cons rfl (fun K hK => ?_) AllReadyH.nil
        rw [if_pos (by rfl)]
        go_simp
        go_at_call 18
        refine (word_Text.calls (m1 + m2) (T (m1 + m2)) _ (hT (m1 + m2) (by omega)).1).mono ?_
        rintro e u2 ⟨rfl, hb⟩
        have hS := hb
        have HY2 := Aside0.mk (blk_below HY1.out hS)
        have HV2 := Aside0.mk (RbIs.below HV1.out hS)
        have HD2 := Aside0.mk (below_step HD1.out hS)
        have hS2 : u2.cell? ⟨B5, 0, none⟩ = some (.string m0) ∧ u2.cell? ⟨B5, 1, none⟩ = some (.int .i64 m1) ∧ u2.cell? ⟨B5, 2, none⟩ = some (.int .i64 m2) ∧ u2.cell? ⟨B5, 3, none⟩ = some (.int .i64 m3) ∧ u2.cell? ⟨B5, 4, none⟩ = some (.int .i64 m4) := ⟨blk_cell HY2.out 0, blk_cell HY2.out 1, blk_cell HY2.out 2, blk_cell HY2.out 3, blk_cell HY2.out 4⟩
        clear hb hS
        go_wp2
        refine hK.out _ _ hS2 (fun hHeld => ?_)
        clear hK
        try simp only [Act.put, List.setIfInBounds_toArray, List.set_cons_zero, List.set_cons_succ]
        refine C.tk_take (i := 15) (v := ?_) (by kernel_rfl) (by kernel_rfl) (by kernel_rfl) (fun oi hoi => ?_) rfl
        rotate_left
        simp only [List.getElem?_toArray, List.getElem?_cons_succ, List.getElem?_cons_zero] at hoi
        cases hoi
        refine ⟨fun _ _ _ h => h, Or.inl ⟨by rfl, ?_⟩, by assumption, ?_⟩
        · (intro w hSw; (try dsimp only at hSw); go_simp; all_goals with_reducible rfl)
        try simp only [Act.put, List.setIfInBounds_toArray, List.set_cons_zero, List.set_cons_succ]
        refine C.tk_take (i := 16) (v := ?_) (by kernel_rfl) (by kernel_rfl) (by kernel_rfl) (fun oi hoi => ?_) rfl
        rotate_left
        simp only [List.getElem?_toArray, List.getElem?_cons_succ, List.getElem?_cons_zero] at hoi
        cases hoi
        refine ⟨fun _ _ _ h => h, Or.inl ⟨by rfl, ?_⟩, by assumption, ?_⟩
        · (intro w hSw; (try dsimp only at hSw); go_simp; all_goals with_reducible rfl)
        try simp only [Act.put, List.setIfInBounds_toArray, List.set_cons_zero, List.set_cons_succ]
        refine wpAnyH_ready (rs := [19]) (by kernel_rfl) (by simp) ?_
        refine AllReadyH.cons rfl (fun K hK => ?_) AllReadyH.nil
        rw [if_pos (by rfl)]
        go_simp
        go_at_call 18
        refine (word_Text.calls m3 (T m3) _ (hT m3 (by omega)).1).mono ?_
        rintro e u3 ⟨rfl, hb⟩
        have hS := hb
        have HY3 := Aside0.mk (blk_below HY2.out hS)
        have HV3 := Aside0.mk (RbIs.below HV2.out hS)
        have HD3 := Aside0.mk (below_step HD2.out hS)
        have hS3 : u3.cell? ⟨B5, 0, none⟩ = some (.string m0) ∧ u3.cell? ⟨B5, 1, none⟩ = some (.int .i64 m1) ∧ u3.cell? ⟨B5, 2, none⟩ = some (.int .i64 m2) ∧ u3.cell? ⟨B5, 3, none⟩ = some (.int .i64 m3) ∧ u3.cell? ⟨B5, 4, none⟩ = some (.int .i64 m4) := ⟨blk_cell HY3.out 0, blk_cell HY3.out 1, blk_cell HY3.out 2, blk_cell HY3.out 3, blk_cell HY3.out 4⟩
        clear hb hS
        go_wp2
        refine hK.out _ _ hS3 (fun hHeld => ?_)
        clear hK
        try simp only [Act.put, List.setIfInBounds_toArray, List.set_cons_zero, List.set_cons_succ]
        refine C.tk_take (i := 20) (v := ?_) (by kernel_rfl) (by kernel_rfl) (by kernel_rfl) (fun oi hoi => ?_) rfl
        rotate_left
        simp only [List.getElem?_toArray, List.getElem?_cons_succ, List.getElem?_cons_zero] at hoi
        cases hoi
        refine ⟨fun _ _ _ h => h, Or.inl ⟨by rfl, ?_⟩, by assumption, ?_⟩
        · (intro w hSw; (try dsimp only at hSw); go_simp; all_goals with_reducible rfl)
        try simp only [Act.put, List.setIfInBounds_toArray, List.set_cons_zero, List.set_cons_succ]
        refine C.tk_take (i := 21) (v := ?_) (by kernel_rfl) (by kernel_rfl) (by kernel_rfl) (fun oi hoi => ?_) rfl
        rotate_left
        simp only [List.getElem?_toArray, List.getElem?_cons_succ, List.getElem?_cons_zero] at hoi
        cases hoi
        refine ⟨fun _ _ _ h => h, Or.inl ⟨by rfl, ?_⟩, by assumption, ?_⟩
        · (intro w hSw; (try dsimp only at hSw); go_simp; all_goals with_reducible rfl)
        try simp only [Act.put, List.setIfInBounds_toArray, List.set_cons_zero, List.set_cons_succ]
        refine wpAnyH_ready (rs := [24]) (by kernel_rfl) (by simp) ?_
        refine AllReadyH.cons rfl (fun K hK => ?_) AllReadyH.nil
        rw [if_pos (by rfl)]
        go_simp
        go_at_call 18
        refine (word_Text.calls m4 (T m4) _ (hT m4 (by omega)).1).mono ?_
        rintro e u4 ⟨rfl, hb⟩
        have hS := hb
        have HY4 := Aside0.mk (blk_below HY3.out hS)
        have HV4 := Aside0.mk (RbIs.below HV3.out hS)
        have HD4 := Aside0.mk (below_step HD3.out hS)
        have hS4 : u4.cell? ⟨B5, 0, none⟩ = some (.string m0) ∧ u4.cell? ⟨B5, 1, none⟩ = some (.int .i64 m1) ∧ u4.cell? ⟨B5, 2, none⟩ = some (.int .i64 m2) ∧ u4.cell? ⟨B5, 3, none⟩ = some (.int .i64 m3) ∧ u4.cell? ⟨B5, 4, none⟩ = some (.int .i64 m4) := ⟨blk_cell HY4.out 0, blk_cell HY4.out 1, blk_cell HY4.out 2, blk_cell HY4.out 3, blk_cell HY4.out 4⟩
        clear hb hS
        go_wp2
        refine hK.out _ _ hS4 (fun hHeld => ?_)
        clear hK
        try simp only [Act.put, List.setIfInBounds_toArray, List.set_cons_zero, List.set_cons_succ]
        refine C.tk_take (i := 25) (v := ?_) (by kernel_rfl) (by kernel_rfl) (by kernel_rfl) (fun oi hoi => ?_) rfl
        rotate_left
        simp only [List.getElem?_toArray, List.getElem?_cons_succ, List.getElem?_cons_zero] at hoi
        cases hoi
        refine ⟨fun _ _ _ h => h, Or.inl ⟨by rfl, ?_⟩, by assumption, ?_⟩
        · (intro w hSw; (try dsimp only at hSw); go_simp; all_goals with_reducible rfl)
        try simp only [Act.put, List.setIfInBounds_toArray, List.set_cons_zero, List.set_cons_succ]
        refine C.tk_take (i := 26) (v := ?_) (by kernel_rfl) (by kernel_rfl) (by kernel_rfl) (fun oi hoi => ?_) rfl
        rotate_left
        simp only [List.getElem?_toArray, List.getElem?_cons_succ, List.getElem?_cons_zero] at hoi
        cases hoi
        refine ⟨fun _ _ _ h => h, Or.inl ⟨by rfl, ?_⟩, by assumption, ?_⟩
        · (intro w hSw; (try dsimp only at hSw); go_simp; all_goals with_reducible rfl)
        try simp only [Act.put, List.setIfInBounds_toArray, List.set_cons_zero, List.set_cons_succ]
        refine wpAnyH_ready (rs := [28]) (by kernel_rfl) (by simp) ?_
        refine AllReadyH.cons rfl (fun K hK => ?_) AllReadyH.nil
        rw [if_pos (by rfl)]
        go_simp
        go_at_call 18
        refine (word_Text.calls (0 : Int) (T (0 : Int)) _ (hT (0 : Int) (by omega)).1).mono ?_
        rintro e u5 ⟨rfl, hb⟩
        have hS := hb
        have HY5 := Aside0.mk (blk_below HY4.out hS)
        have HV5 := Aside0.mk (RbIs.below HV4.out hS)
        have HD5 := Aside0.mk (below_step HD4.out hS)
        have hS5 : u5.cell? ⟨B5, 0, none⟩ = some (.string m0) ∧ u5.cell? ⟨B5, 1, none⟩ = some (.int .i64 m1) ∧ u5.cell? ⟨B5, 2, none⟩ = some (.int .i64 m2) ∧ u5.cell? ⟨B5, 3, none⟩ = some (.int .i64 m3) ∧ u5.cell? ⟨B5, 4, none⟩ = some (.int .i64 m4) := ⟨blk_cell HY5.out 0, blk_cell HY5.out 1, blk_cell HY5.out 2, blk_cell HY5.out 3, blk_cell HY5.out 4⟩
        clear hb hS
        go_wp2
        refine hK.out _ _ hS5 (fun hHeld => ?_)
        clear hK
        try simp only [Act.put, List.setIfInBounds_toArray, List.set_cons_zero, List.set_cons_succ]
        refine C.tk_take (i := 29) (v := ?_) (by kernel_rfl) (by kernel_rfl) (by kernel_rfl) (fun oi hoi => ?_) rfl
        rotate_left
        simp only [List.getElem?_toArray, List.getElem?_cons_succ, List.getElem?_cons_zero] at hoi
        cases hoi
        refine ⟨fun _ _ _ h => h, Or.inl ⟨by rfl, ?_⟩, by assumption, ?_⟩
        · (intro w hSw; (try dsimp only at hSw); go_simp; all_goals with_reducible rfl)
        try simp only [Act.put, List.setIfInBounds_toArray, List.set_cons_zero, List.set_cons_succ]
        refine C.tk_take (i := 30) (v := ?_) (by kernel_rfl) (by kernel_rfl) (by kernel_rfl) (fun oi hoi => ?_) rfl
        rotate_left
        simp only [List.getElem?_toArray, List.getElem?_cons_succ, List.getElem?_cons_zero] at hoi
        cases hoi
        refine ⟨fun _ _ _ h => h, Or.inl ⟨by rfl, ?_⟩, by assumption, ?_⟩
        · (intro w hSw; (try dsimp only at hSw); go_simp; all_goals with_reducible rfl)
        try simp only [Act.put, List.setIfInBounds_toArray, List.set_cons_zero, List.set_cons_succ]
        refine wpAnyH_ready (rs := [31]) (by kernel_rfl) (by simp) ?_
        refine AllReadyH.cons rfl (fun K hK => ?_) AllReadyH.nil
        rw [if_pos (by rfl)]
        go_simp
        go_at_call 29
        refine (rb_write _ HV5.out (by show _ + (rp_line T ⟨m0, m1, m2, m3, m4⟩ (0 : Int)).size ≤ _; have := HLS.out; have := HSS.out; omega) (Nat.le_trans HWR.out HD5.out.size)).mono ?_
        rintro e u9 ⟨rfl, h1, hb, hk⟩
        have hk9 := hk _ _ HY5.out (fun hh => by injection hh with hh; have := HLT.out; have := HB5.out; omega) (by intro c fz hh; cases hh)
        have HV9 := Aside0.mk h1
        have HB9 := Aside0.mk ((below_then HBW.out HWR.out HD5.out).trans hb)
        have hS9 : u9.cell? ⟨B5, 0, none⟩ = some (.string m0) ∧ u9.cell? ⟨B5, 1, none⟩ = some (.int .i64 m1) ∧ u9.cell? ⟨B5, 2, none⟩ = some (.int .i64 m2) ∧ u9.cell? ⟨B5, 3, none⟩ = some (.int .i64 m3) ∧ u9.cell? ⟨B5, 4, none⟩ = some (.int .i64 m4) := ⟨blk_cell hk9 0, blk_cell hk9 1, blk_cell hk9 2, blk_cell hk9 3, blk_cell hk9 4⟩
        clear h1 hb hk hk9
        go_wp2
        refine hK.out _ _ hS9 (fun hHeld => ?_)
        clear hK
        try simp only [Act.put, List.setIfInBounds_toArray, List.set_cons_zero, List.set_cons_succ]
        refine wpAnyH_done (by kernel_rfl) ?_ _
        go_wp2
        go_roundg (ms.length - k)
        case measure => have := HI.out; have := HH.out; omega
        case rel => exact ⟨k + 1, (by first | rfl | (simp; done)), ⟨⟨by have := HI.out; have := HH.out; omega, by have := HH.out; omega⟩⟩, ⟨by rw [HNX.out]; exact HV9.out⟩, HB9⟩
    · have hke : k = ms.length := by have := HI.out; omega
      subst hke
      have hss : (rp_sum T ms ts ms.length).size ≤ 84000000 := by have := HSZ.out ms.length (Nat.le_refl _); omega
      have k2 : ¬ ((ms.length : Int) < (ms.length : Int)) := by omega
      have k2b : decide (ms.length < ms.length) = false := decide_eq_false (by omega)
      obtain ⟨g0, g1, g2, g3, g4, g5⟩ := HAA.out
      have y1 := (hT a0 (by omega)).2.2
      have y2 := (hT (a1 - a0) (by omega)).2.2
      have y3 := (hT (a2 - a1) (by omega)).2.2
      have y4 := (hT (a3 - a2) (by omega)).2.2
      have y5 := (hT (a4 - a3) (by omega)).2.2
      have hls : (rp_last T a0 a1 a2 a3 a4).size ≤ 1000 := by unfold rp_last; simp only [ByteArray.size_append]; show 5 + (T a0).size + 9 + (T (a1 - a0)).size + 12 + (T (a2 - a1)).size + 7 + (T (a3 - a2)).size + 8 + (T (a4 - a3)).size + 1 ≤ 1000; omega
      have HSS := Aside0.mk hls; have HLS := Aside0.mk hss
      have z0 : (9223372036854775807 < 5 + (T a0).size) = False := eq_false (by omega)
      have z1 : (9223372036854775807 < 5 + (T a0).size + 9) = False := eq_false (by omega)
      have z2 : (9223372036854775807 < 5 + (T a0).size + 9 + (T (a1 - a0)).size) = False := eq_false (by omega)
      have z3 : (9223372036854775807 < 5 + (T a0).size + 9 + (T (a1 - a0)).size + 12) = False := eq_false (by omega)
      have z4 : (9223372036854775807 < 5 + (T a0).size + 9 + (T (a1 - a0)).size + 12 + (T (a2 - a1)).size) = False := eq_false (by omega)
      have z5 : (9223372036854775807 < 5 + (T a0).size + 9 + (T (a1 - a0)).size + 12 + (T (a2 - a1)).size + 7) = False := eq_false (by omega)
      have z6 : (9223372036854775807 < 5 + (T a0).size + 9 + (T (a1 - a0)).size + 12 + (T (a2 - a1)).size + 7 + (T (a3 - a2)).size) = False := eq_false (by omega)
      have z7 : (9223372036854775807 < 5 + (T a0).size + 9 + (T (a1 - a0)).size + 12 + (T (a2 - a1)).size + 7 + (T (a3 - a2)).size + 8) = False := eq_false (by omega)
      have z8 : (9223372036854775807 < 5 + (T a0).size + 9 + (T (a1 - a0)).size + 12 + (T (a2 - a1)).size + 7 + (T (a3 - a2)).size + 8 + (T (a4 - a3)).size) = False := eq_false (by omega)
      have z9 : (9223372036854775807 < 5 + (T a0).size + 9 + (T (a1 - a0)).size + 12 + (T (a2 - a1)).size + 7 + (T (a3 - a2)).size + 8 + (T (a4 - a3)).size + 1) = False := eq_false (by omega)
      have wr0 : IntKind.u32.wrap (a1 - a0) = a1 - a0 := by rw [IntKind.wrap_u32]; omega
      have wr1 : IntKind.u32.wrap (a2 - a1) = a2 - a1 := by rw [IntKind.wrap_u32]; omega
      have wr2 : IntKind.u32.wrap (a3 - a2) = a3 - a2 := by rw [IntKind.wrap_u32]; omega
      have wr3 : IntKind.u32.wrap (a4 - a3) = a4 - a3 := by rw [IntKind.wrap_u32]; omega
      have wi0 : IntKind.i64.wrap (a0) = a0 := by rw [IntKind.wrap_i64]; omega
      have wi1 : IntKind.i64.wrap (a1 - a0) = a1 - a0 := by rw [IntKind.wrap_i64]; omega
      have wi2 : IntKind.i64.wrap (a2 - a1) = a2 - a1 := by rw [IntKind.wrap_i64]; omega
      have wi3 : IntKind.i64.wrap (a3 - a2) = a3 - a2 := by rw [IntKind.wrap_i64]; omega
      have wi4 : IntKind.i64.wrap (a4 - a3) = a4 - a3 := by rw [IntKind.wrap_i64]; omega
      clear hss hls hk y1 y2 y3 y4 y5
      have cE0 : wr.cell? ⟨b1, 0, none⟩ = some (.int .u32 a0) := pw_cell_below HBW.out (blk_cell HX1.out 0)
      have cE1 : wr.cell? ⟨b1, 1, none⟩ = some (.int .u32 a1) := pw_cell_below HBW.out (blk_cell HX1.out 1)
      have cE2 : wr.cell? ⟨b1, 2, none⟩ = some (.int .u32 a2) := pw_cell_below HBW.out (blk_cell HX1.out 2)
      have cE3 : wr.cell? ⟨b1, 3, none⟩ = some (.int .u32 a3) := pw_cell_below HBW.out (blk_cell HX1.out 3)
      have cE4 : wr.cell? ⟨b1, 4, none⟩ = some (.int .u32 a4) := pw_cell_below HBW.out (blk_cell HX1.out 4)
      obtain ⟨W1, hW1⟩ : ∃ W1, W1 = wr.alloc (.cells #[.int .u32 a0, .int .u32 a1, .int .u32 a2, .int .u32 a3, .int .u32 a4] 34) := ⟨_, rfl⟩
      have hB1 : Below wr.heap.size wr W1 := by rw [hW1]; exact below_alloc (Below.refl _ _) _
      obtain ⟨B5, hB5⟩ : ∃ B5, wr.heap.size = B5 := ⟨_, rfl⟩
      have yb : W1.heap[B5]? = some (.cells #[.int .u32 a0, .int .u32 a1, .int .u32 a2, .int .u32 a3, .int .u32 a4] 34 (0, 0)) := by rw [hW1, ← hB5]; exact blk_new wr _
      have HW1 := Aside0.mk hW1
      have HB5 := Aside0.mk hB5
      have HY0 := Aside0.mk yb
      have HV0 := Aside0.mk (RbIs.below HV.out hB1)
      have HD0 := Aside0.mk hB1
      clear hB1 hW1 yb hB5
      go_wp2
      rw [← HW1.out, HB5.out]
      clear cE0 cE1 cE2 cE3 cE4
      refine wp_region_held_drew (S := fun w' => w'.cell? ⟨B5, 0, none⟩ = some (.int .u32 a0) ∧ w'.cell? ⟨B5, 1, none⟩ = some (.int .u32 a1) ∧ w'.cell? ⟨B5, 2, none⟩ = some (.int .u32 a2) ∧ w'.cell? ⟨B5, 3, none⟩ = some (.int .u32 a3) ∧ w'.cell? ⟨B5, 4, none⟩ = some (.int .u32 a4)) (by kernel_rfl) (show W1.drew.cell? ⟨B5, 0, none⟩ = some (.int .u32 a0) ∧ W1.drew.cell? ⟨B5, 1, none⟩ = some (.int .u32 a1) ∧ W1.drew.cell? ⟨B5, 2, none⟩ = some (.int .u32 a2) ∧ W1.drew.cell? ⟨B5, 3, none⟩ = some (.int .u32 a3) ∧ W1.drew.cell? ⟨B5, 4, none⟩ = some (.int .u32 a4) from ⟨blk_cell (blk_drew HY0.out) 0, blk_cell (blk_drew HY0.out) 1, blk_cell (blk_drew HY0.out) 2, blk_cell (blk_drew HY0.out) 3, blk_cell (blk_drew HY0.out) 4⟩) (fun hHeld => ?_)
      refine C.tk_take (i := 0) (v := ?_) (by kernel_rfl) (by kernel_rfl) (by kernel_rfl) (fun oi hoi => ?_) rfl
      rotate_left
      simp only [List.getElem?_toArray, List.getElem?_cons_succ, List.getElem?_cons_zero] at hoi
      cases hoi
      refine ⟨fun _ _ _ h => h, Or.inl ⟨by rfl, ?_⟩, by assumption, ?_⟩
      · (intro w hSw; (try dsimp only at hSw); go_simp; all_goals with_reducible rfl)
      try simp only [Act.put, List.setIfInBounds_toArray, List.set_cons_zero, List.set_cons_succ]
      refine C.tk_take (i := 1) (v := ?_) (by kernel_rfl) (by kernel_rfl) (by kernel_rfl) (fun oi hoi => ?_) rfl
      rotate_left
      simp only [List.getElem?_toArray, List.getElem?_cons_succ, List.getElem?_cons_zero] at hoi
      cases hoi
      refine ⟨fun _ _ _ h => h, Or.inl ⟨by rfl, ?_⟩, by assumption, ?_⟩
      · (intro w hSw; (try dsimp only at hSw); go_simp; all_goals with_reducible rfl)
      try simp only [Act.put, List.setIfInBounds_toArray, List.set_cons_zero, List.set_cons_succ]
      refine C.tk_take (i := 2) (v := ?_) (by kernel_rfl) (by kernel_rfl) (by kernel_rfl) (fun oi hoi => ?_) rfl
      rotate_left
      simp only [List.getElem?_toArray, List.getElem?_cons_succ, List.getElem?_cons_zero] at hoi
      cases hoi
      refine ⟨fun _ _ _ h => h, Or.inl ⟨by rfl, ?_⟩, by assumption, ?_⟩
      · (intro w hSw; (try dsimp only at hSw); go_simp; all_goals with_reducible rfl)
      try simp only [Act.put, List.setIfInBounds_toArray, List.set_cons_zero, List.set_cons_succ]
      refine C.tk_take (i := 6) (v := ?_) (by kernel_rfl) (by kernel_rfl) (by kernel_rfl) (fun oi hoi => ?_) rfl
      rotate_left
      simp only [List.getElem?_toArray, List.getElem?_cons_succ, List.getElem?_cons_zero] at hoi
      cases hoi
      refine ⟨fun _ _ _ h => h, Or.inl ⟨by rfl, ?_⟩, by assumption, ?_⟩
      · (intro w hSw; (try dsimp only at hSw); go_simp; all_goals with_reducible rfl)
      try simp only [Act.put, List.setIfInBounds_toArray, List.set_cons_zero, List.set_cons_succ]
      refine C.tk_take (i := 7) (v := ?_) (by kernel_rfl) (by kernel_rfl) (by kernel_rfl) (fun oi hoi => ?_) rfl
      rotate_left
      simp only [List.getElem?_toArray, List.getElem?_cons_succ, List.getElem?_cons_zero] at hoi
      cases hoi
      refine ⟨fun _ _ _ h => h, Or.inl ⟨by rfl, ?_⟩, by assumption, ?_⟩
      · (intro w hSw; (try dsimp only at hSw); go_simp; all_goals with_reducible rfl)
      try simp only [Act.put, List.setIfInBounds_toArray, List.set_cons_zero, List.set_cons_succ]
      refine C.tk_take (i := 8) (v := ?_) (by kernel_rfl) (by kernel_rfl) (by kernel_rfl) (fun oi hoi => ?_) rfl
      rotate_left
      simp only [List.getElem?_toArray, List.getElem?_cons_succ, List.getElem?_cons_zero] at hoi
      cases hoi
      refine ⟨fun _ _ _ h => h, Or.inl ⟨by rfl, ?_⟩, by assumption, ?_⟩
      · (intro w hSw; (try dsimp only at hSw); go_simp; all_goals with_reducible rfl)
      try simp only [Act.put, List.setIfInBounds_toArray, List.set_cons_zero, List.set_cons_succ]
      refine C.tk_take (i := 9) (v := ?_) (by kernel_rfl) (by kernel_rfl) (by kernel_rfl) (fun oi hoi => ?_) rfl
      rotate_left
      simp only [List.getElem?_toArray, List.getElem?_cons_succ, List.getElem?_cons_zero] at hoi
      cases hoi
      refine ⟨fun _ _ _ h => h, Or.inl ⟨by rfl, ?_⟩, by assumption, ?_⟩
      · (intro w hSw; (try dsimp only at hSw); go_simp; all_goals with_reducible rfl)
      try simp only [Act.put, List.setIfInBounds_toArray, List.set_cons_zero, List.set_cons_succ]
      refine C.tk_take (i := 10) (v := ?_) (by kernel_rfl) (by kernel_rfl) (by kernel_rfl) (fun oi hoi => ?_) rfl
      rotate_left
      simp only [List.getElem?_toArray, List.getElem?_cons_succ, List.getElem?_cons_zero] at hoi
      cases hoi
      refine ⟨fun _ _ _ h => h, Or.inl ⟨by rfl, ?_⟩, by assumption, ?_⟩
      · (intro w hSw; (try dsimp only at hSw); go_simp; all_goals with_reducible rfl)
      try simp only [Act.put, List.setIfInBounds_toArray, List.set_cons_zero, List.set_cons_succ]
      refine C.tk_take (i := 11) (v := ?_) (by kernel_rfl) (by kernel_rfl) (by kernel_rfl) (fun oi hoi => ?_) rfl
      rotate_left
      simp only [List.getElem?_toArray, List.getElem?_cons_succ, List.getElem?_cons_zero] at hoi
      cases hoi
      refine ⟨fun _ _ _ h => h, Or.inl ⟨by rfl, ?_⟩, by assumption, ?_⟩
      · (intro w hSw; (try dsimp only at hSw); go_simp; all_goals with_reducible rfl)
      try simp only [Act.put, List.setIfInBounds_toArray, List.set_cons_zero, List.set_cons_succ]
      refine C.tk_take (i := 15) (v := ?_) (by kernel_rfl) (by kernel_rfl) (by kernel_rfl) (fun oi hoi => ?_) rfl
      rotate_left
      simp only [List.getElem?_toArray, List.getElem?_cons_succ, List.getElem?_cons_zero] at hoi
      cases hoi
      refine ⟨fun _ _ _ h => h, Or.inl ⟨by rfl, ?_⟩, by assumption, ?_⟩
      · (intro w hSw; (try dsimp only at hSw); go_simp; all_goals with_reducible rfl)
      try simp only [Act.put, List.setIfInBounds_toArray, List.set_cons_zero, List.set_cons_succ]
      refine C.tk_take (i := 16) (v := ?_) (by kernel_rfl) (by kernel_rfl) (by kernel_rfl) (fun oi hoi => ?_) rfl
      rotate_left
      simp only [List.getElem?_toArray, List.getElem?_cons_succ, List.getElem?_cons_zero] at hoi
      cases hoi
      refine ⟨fun _ _ _ h => h, Or.inl ⟨by rfl, ?_⟩, by assumption, ?_⟩
      · (intro w hSw; (try dsimp only at hSw); go_simp; all_goals with_reducible rfl)
      try simp only [Act.put, List.setIfInBounds_toArray, List.set_cons_zero, List.set_cons_succ]
      refine C.tk_take (i := 17) (v := ?_) (by kernel_rfl) (by kernel_rfl) (by kernel_rfl) (fun oi hoi => ?_) rfl
      rotate_left
      simp only [List.getElem?_toArray, List.getElem?_cons_succ, List.getElem?_cons_zero] at hoi
      cases hoi
      refine ⟨fun _ _ _ h => h, Or.inl ⟨by rfl, ?_⟩, by assumption, ?_⟩
      · (intro w hSw; (try dsimp only at hSw); go_simp; all_goals with_reducible rfl)
      try simp only [Act.put, List.setIfInBounds_toArray, List.set_cons_zero, List.set_cons_succ]
      refine C.tk_take (i := 18) (v := ?_) (by kernel_rfl) (by kernel_rfl) (by kernel_rfl) (fun oi hoi => ?_) rfl
      rotate_left
      simp only [List.getElem?_toArray, List.getElem?_cons_succ, List.getElem?_cons_zero] at hoi
      cases hoi
      refine ⟨fun _ _ _ h => h, Or.inl ⟨by rfl, ?_⟩, by assumption, ?_⟩
      · (intro w hSw; (try dsimp only at hSw); go_simp; all_goals with_reducible rfl)
      try simp only [Act.put, List.setIfInBounds_toArray, List.set_cons_zero, List.set_cons_succ]
      refine C.tk_take (i := 19) (v := ?_) (by kernel_rfl) (by kernel_rfl) (by kernel_rfl) (fun oi hoi => ?_) rfl
      rotate_left
      simp only [List.getElem?_toArray, List.getElem?_cons_succ, List.getElem?_cons_zero] at hoi
      cases hoi
      refine ⟨fun _ _ _ h => h, Or.inl ⟨by rfl, ?_⟩, by assumption, ?_⟩
      · (intro w hSw; (try dsimp only at hSw); go_simp; all_goals with_reducible rfl)
      try simp only [Act.put, List.setIfInBounds_toArray, List.set_cons_zero, List.set_cons_succ]
      refine C.tk_take (i := 20) (v := ?_) (by kernel_rfl) (by kernel_rfl) (by kernel_rfl) (fun oi hoi => ?_) rfl
      rotate_left
      simp only [List.getElem?_toArray, List.getElem?_cons_succ, List.getElem?_cons_zero] at hoi
      cases hoi
      refine ⟨fun _ _ _ h => h, Or.inl ⟨by rfl, ?_⟩, by assumption, ?_⟩
      · (intro w hSw; (try dsimp only at hSw); go_simp; all_goals with_reducible rfl)
      try simp only [Act.put, List.setIfInBounds_toArray, List.set_cons_zero, List.set_cons_succ]
      refine C.tk_take (i := 24) (v := ?_) (by kernel_rfl) (by kernel_rfl) (by kernel_rfl) (fun oi hoi => ?_) rfl
      rotate_left
      simp only [List.getElem?_toArray, List.getElem?_cons_succ, List.getElem?_cons_zero] at hoi
      cases hoi
      refine ⟨fun _ _ _ h => h, Or.inl ⟨by rfl, ?_⟩, by assumption, ?_⟩
      · (intro w hSw; (try dsimp only at hSw); go_simp; all_goals with_reducible rfl)
      try simp only [Act.put, List.setIfInBounds_toArray, List.set_cons_zero, List.set_cons_succ]
      refine C.tk_take (i := 25) (v := ?_) (by kernel_rfl) (by kernel_rfl) (by kernel_rfl) (fun oi hoi => ?_) rfl
      rotate_left
      simp only [List.getElem?_toArray, List.getElem?_cons_succ, List.getElem?_cons_zero] at hoi
      cases hoi
      refine ⟨fun _ _ _ h => h, Or.inl ⟨by rfl, ?_⟩, by assumption, ?_⟩
      · (intro w hSw; (try dsimp only at hSw); go_simp; all_goals with_reducible rfl)
      try simp only [Act.put, List.setIfInBounds_toArray, List.set_cons_zero, List.set_cons_succ]
      refine C.tk_take (i := 26) (v := ?_) (by kernel_rfl) (by kernel_rfl) (by kernel_rfl) (fun oi hoi => ?_) rfl
      rotate_left
      simp only [List.getElem?_toArray, List.getElem?_cons_succ, List.getElem?_cons_zero] at hoi
      cases hoi
      refine ⟨fun _ _ _ h => h, Or.inl ⟨by rfl, ?_⟩, by assumption, ?_⟩
      · (intro w hSw; (try dsimp only at hSw); go_simp; all_goals with_reducible rfl)
      try simp only [Act.put, List.setIfInBounds_toArray, List.set_cons_zero, List.set_cons_succ]
      refine C.tk_take (i := 27) (v := ?_) (by kernel_rfl) (by kernel_rfl) (by kernel_rfl) (fun oi hoi => ?_) rfl
      rotate_left
      simp only [List.getElem?_toArray, List.getElem?_cons_succ, List.getElem?_cons_zero] at hoi
      cases hoi
      refine ⟨fun _ _ _ h => h, Or.inl ⟨by rfl, ?_⟩, by assumption, ?_⟩
      · (intro w hSw; (try dsimp only at hSw); go_simp; all_goals with_reducible rfl)
      try simp only [Act.put, List.setIfInBounds_toArray, List.set_cons_zero, List.set_cons_succ]
      refine C.tk_take (i := 28) (v := ?_) (by kernel_rfl) (by kernel_rfl) (by kernel_rfl) (fun oi hoi => ?_) rfl
      rotate_left
      simp only [List.getElem?_toArray, List.getElem?_cons_succ, List.getElem?_cons_zero] at hoi
      cases hoi
      refine ⟨fun _ _ _ h => h, Or.inl ⟨by rfl, ?_⟩, by assumption, ?_⟩
      · (intro w hSw; (try dsimp only at hSw); go_simp; all_goals with_reducible rfl)
      try simp only [Act.put, List.setIfInBounds_toArray, List.set_cons_zero, List.set_cons_succ]
      refine C.tk_take (i := 29) (v := ?_) (by kernel_rfl) (by kernel_rfl) (by kernel_rfl) (fun oi hoi => ?_) rfl
      rotate_left
      simp only [List.getElem?_toArray, List.getElem?_cons_succ, List.getElem?_cons_zero] at hoi
      cases hoi
      refine ⟨fun _ _ _ h => h, Or.inl ⟨by rfl, ?_⟩, by assumption, ?_⟩
      · (intro w hSw; (try dsimp only at hSw); go_simp; all_goals with_reducible rfl)
      try simp only [Act.put, List.setIfInBounds_toArray, List.set_cons_zero, List.set_cons_succ]
      refine C.tk_take (i := 33) (v := ?_) (by kernel_rfl) (by kernel_rfl) (by kernel_rfl) (fun oi hoi => ?_) rfl
      rotate_left
      simp only [List.getElem?_toArray, List.getElem?_cons_succ, List.getElem?_cons_zero] at hoi
      cases hoi
      refine ⟨fun _ _ _ h => h, Or.inl ⟨by rfl, ?_⟩, by assumption, ?_⟩
      · (intro w hSw; (try dsimp only at hSw); go_simp; all_goals with_reducible rfl)
      try simp only [Act.put, List.setIfInBounds_toArray, List.set_cons_zero, List.set_cons_succ]
      refine C.tk_take (i := 34) (v := ?_) (by kernel_rfl) (by kernel_rfl) (by kernel_rfl) (fun oi hoi => ?_) rfl
      rotate_left
      simp only [List.getElem?_toArray, List.getElem?_cons_succ, List.getElem?_cons_zero] at hoi
      cases hoi
      refine ⟨fun _ _ _ h => h, Or.inl ⟨by rfl, ?_⟩, by assumption, ?_⟩
      · (intro w hSw; (try dsimp only at hSw); go_simp; all_goals with_reducible rfl)
      try simp only [Act.put, List.setIfInBounds_toArray, List.set_cons_zero, List.set_cons_succ]
      refine C.tk_take (i := 35) (v := ?_) (by kernel_rfl) (by kernel_rfl) (by kernel_rfl) (fun oi hoi => ?_) rfl
      rotate_left
      simp only [List.getElem?_toArray, List.getElem?_cons_succ, List.getElem?_cons_zero] at hoi
      cases hoi
      refine ⟨fun _ _ _ h => h, Or.inl ⟨by rfl, ?_⟩, by assumption, ?_⟩
      · (intro w hSw; (try dsimp only at hSw); go_simp; all_goals with_reducible rfl)
      try simp only [Act.put, List.setIfInBounds_toArray, List.set_cons_zero, List.set_cons_succ]
      refine C.tk_take (i := 36) (v := ?_) (by kernel_rfl) (by kernel_rfl) (by kernel_rfl) (fun oi hoi => ?_) rfl
      rotate_left
      simp only [List.getElem?_toArray, List.getElem?_cons_succ, List.getElem?_cons_zero] at hoi
      cases hoi
      refine ⟨fun _ _ _ h => h, Or.inl ⟨by rfl, ?_⟩, by assumption, ?_⟩
      · (intro w hSw; (try dsimp only at hSw); go_simp; all_goals with_reducible rfl)
      try simp only [Act.put, List.setIfInBounds_toArray, List.set_cons_zero, List.set_cons_succ]
      refine C.tk_take (i := 37) (v := ?_) (by kernel_rfl) (by kernel_rfl) (by kernel_rfl) (fun oi hoi => ?_) rfl
      rotate_left
      simp only [List.getElem?_toArray, List.getElem?_cons_succ, List.getElem?_cons_zero] at hoi
      cases hoi
      refine ⟨fun _ _ _ h => h, Or.inl ⟨by rfl, ?_⟩, by assumption, ?_⟩
      · (intro w hSw; (try dsimp only at hSw); go_simp; all_goals with_reducible rfl)
      try simp only [Act.put, List.setIfInBounds_toArray, List.set_cons_zero, List.set_cons_succ]
      refine C.tk_take (i := 38) (v := ?_) (by kernel_rfl) (by kernel_rfl) (by kernel_rfl) (fun oi hoi => ?_) rfl
      rotate_left
      simp only [List.getElem?_toArray, List.getElem?_cons_succ, List.getElem?_cons_zero] at hoi
      cases hoi
      refine ⟨fun _ _ _ h => h, Or.inl ⟨by rfl, ?_⟩, by assumption, ?_⟩
      · (intro w hSw; (try dsimp only at hSw); go_simp; all_goals with_reducible rfl)
      try simp only [Act.put, List.setIfInBounds_toArray, List.set_cons_zero, List.set_cons_succ]
      refine wpAnyH_ready (rs := [3]) (by kernel_rfl) (by simp) ?_
      refine AllReadyH.cons rfl (fun K hK => ?_) AllReadyH.nil
      rw [if_pos (by rfl)]
      go_simp
      go_at_call 18
      refine (word_Text.calls a0 (T a0) _ (hT a0 (by omega)).1).mono ?_
      rintro e u1 ⟨rfl, hb⟩
      have hS := below_step (below_drew (Below.refl W1.heap.size W1)) hb
      have HY1 := Aside0.mk (blk_below HY0.out hS)
      have HV1 := Aside0.mk (RbIs.below HV0.out hS)
      have HD1 := Aside0.mk (below_step HD0.out hS)
      have hS1 : u1.cell? ⟨B5, 0, none⟩ = some (.int .u32 a0) ∧ u1.cell? ⟨B5, 1, none⟩ = some (.int .u32 a1) ∧ u1.cell? ⟨B5, 2, none⟩ = some (.int .u32 a2) ∧ u1.cell? ⟨B5, 3, none⟩ = some (.int .u32 a3) ∧ u1.cell? ⟨B5, 4, none⟩ = some (.int .u32 a4) := ⟨blk_cell HY1.out 0, blk_cell HY1.out 1, blk_cell HY1.out 2, blk_cell HY1.out 3, blk_cell HY1.out 4⟩
      clear hb hS
      go_wp2
      refine hK.out _ _ hS1 (fun hHeld => ?_)
      clear hK
      try simp only [Act.put, List.setIfInBounds_toArray, List.set_cons_zero, List.set_cons_succ]
      refine C.tk_take (i := 4) (v := ?_) (by kernel_rfl) (by kernel_rfl) (by kernel_rfl) (fun oi hoi => ?_) rfl
      rotate_left
      simp only [List.getElem?_toArray, List.getElem?_cons_succ, List.getElem?_cons_zero] at hoi
      cases hoi
      refine ⟨fun _ _ _ h => h, Or.inl ⟨by rfl, ?_⟩, by assumption, ?_⟩
      · (intro w hSw; (try dsimp only at hSw); go_simp; all_goals with_reducible rfl)
      try simp only [Act.put, List.setIfInBounds_toArray, List.set_cons_zero, List.set_cons_succ]
      refine C.tk_take (i := 5) (v := ?_) (by kernel_rfl) (by kernel_rfl) (by kernel_rfl) (fun oi hoi => ?_) rfl
      rotate_left
      simp only [List.getElem?_toArray, List.getElem?_cons_succ, List.getElem?_cons_zero] at hoi
      cases hoi
      refine ⟨fun _ _ _ h => h, Or.inl ⟨by rfl, ?_⟩, by assumption, ?_⟩
      · (intro w hSw; (try dsimp only at hSw); go_simp; all_goals with_reducible rfl)
      try simp only [Act.put, List.setIfInBounds_toArray, List.set_cons_zero, List.set_cons_succ]
      refine wpAnyH_ready (rs := [12]) (by kernel_rfl) (by simp) ?_
      refine AllReadyH.cons rfl (fun K hK => ?_) AllReadyH.nil
      rw [if_pos (by rfl)]
      go_simp
      go_at_call 18
      refine (word_Text.calls (a1 - a0) (T (a1 - a0)) _ (hT (a1 - a0) (by omega)).1).mono ?_
      rintro e u2 ⟨rfl, hb⟩
      have hS := hb
      have HY2 := Aside0.mk (blk_below HY1.out hS)
      have HV2 := Aside0.mk (RbIs.below HV1.out hS)
      have HD2 := Aside0.mk (below_step HD1.out hS)
      have hS2 : u2.cell? ⟨B5, 0, none⟩ = some (.int .u32 a0) ∧ u2.cell? ⟨B5, 1, none⟩ = some (.int .u32 a1) ∧ u2.cell? ⟨B5, 2, none⟩ = some (.int .u32 a2) ∧ u2.cell? ⟨B5, 3, none⟩ = some (.int .u32 a3) ∧ u2.cell? ⟨B5, 4, none⟩ = some (.int .u32 a4) := ⟨blk_cell HY2.out 0, blk_cell HY2.out 1, blk_cell HY2.out 2, blk_cell HY2.out 3, blk_cell HY2.out 4⟩
      clear hb hS
      go_wp2
      refine hK.out _ _ hS2 (fun hHeld => ?_)
      clear hK
      try simp only [Act.put, List.setIfInBounds_toArray, List.set_cons_zero, List.set_cons_succ]
      refine C.tk_take (i := 13) (v := ?_) (by kernel_rfl) (by kernel_rfl) (by kernel_rfl) (fun oi hoi => ?_) rfl
      rotate_left
      simp only [List.getElem?_toArray, List.getElem?_cons_succ, List.getElem?_cons_zero] at hoi
      cases hoi
      refine ⟨fun _ _ _ h => h, Or.inl ⟨by rfl, ?_⟩, by assumption, ?_⟩
      · (intro w hSw; (try dsimp only at hSw); go_simp; all_goals with_reducible rfl)
      try simp only [Act.put, List.setIfInBounds_toArray, List.set_cons_zero, List.set_cons_succ]
      refine C.tk_take (i := 14) (v := ?_) (by kernel_rfl) (by kernel_rfl) (by kernel_rfl) (fun oi hoi => ?_) rfl
      rotate_left
      simp only [List.getElem?_toArray, List.getElem?_cons_succ, List.getElem?_cons_zero] at hoi
      cases hoi
      refine ⟨fun _ _ _ h => h, Or.inl ⟨by rfl, ?_⟩, by assumption, ?_⟩
      · (intro w hSw; (try dsimp only at hSw); go_simp; all_goals with_reducible rfl)
      try simp only [Act.put, List.setIfInBounds_toArray, List.set_cons_zero, List.set_cons_succ]
      refine wpAnyH_ready (rs := [21]) (by kernel_rfl) (by simp) ?_
      refine AllReadyH.cons rfl (fun K hK => ?_) AllReadyH.nil
      rw [if_pos (by rfl)]
      go_simp
      go_at_call 18
      refine (word_Text.calls (a2 - a1) (T (a2 - a1)) _ (hT (a2 - a1) (by omega)).1).mono ?_
      rintro e u3 ⟨rfl, hb⟩
      have hS := hb
      have HY3 := Aside0.mk (blk_below HY2.out hS)
      have HV3 := Aside0.mk (RbIs.below HV2.out hS)
      have HD3 := Aside0.mk (below_step HD2.out hS)
      have hS3 : u3.cell? ⟨B5, 0, none⟩ = some (.int .u32 a0) ∧ u3.cell? ⟨B5, 1, none⟩ = some (.int .u32 a1) ∧ u3.cell? ⟨B5, 2, none⟩ = some (.int .u32 a2) ∧ u3.cell? ⟨B5, 3, none⟩ = some (.int .u32 a3) ∧ u3.cell? ⟨B5, 4, none⟩ = some (.int .u32 a4) := ⟨blk_cell HY3.out 0, blk_cell HY3.out 1, blk_cell HY3.out 2, blk_cell HY3.out 3, blk_cell HY3.out 4⟩
      clear hb hS
      go_wp2
      refine hK.out _ _ hS3 (fun hHeld => ?_)
      clear hK
      try simp only [Act.put, List.setIfInBounds_toArray, List.set_cons_zero, List.set_cons_succ]
      refine C.tk_take (i := 22) (v := ?_) (by kernel_rfl) (by kernel_rfl) (by kernel_rfl) (fun oi hoi => ?_) rfl
      rotate_left
      simp only [List.getElem?_toArray, List.getElem?_cons_succ, List.getElem?_cons_zero] at hoi
      cases hoi
      refine ⟨fun _ _ _ h => h, Or.inl ⟨by rfl, ?_⟩, by assumption, ?_⟩
      · (intro w hSw; (try dsimp only at hSw); go_simp; all_goals with_reducible rfl)
      try simp only [Act.put, List.setIfInBounds_toArray, List.set_cons_zero, List.set_cons_succ]
      refine C.tk_take (i := 23) (v := ?_) (by kernel_rfl) (by kernel_rfl) (by kernel_rfl) (fun oi hoi => ?_) rfl
      rotate_left
      simp only [List.getElem?_toArray, List.getElem?_cons_succ, List.getElem?_cons_zero] at hoi
      cases hoi
      refine ⟨fun _ _ _ h => h, Or.inl ⟨by rfl, ?_⟩, by assumption, ?_⟩
      · (intro w hSw; (try dsimp only at hSw); go_simp; all_goals with_reducible rfl)
      try simp only [Act.put, List.setIfInBounds_toArray, List.set_cons_zero, List.set_cons_succ]
      refine wpAnyH_ready (rs := [30]) (by kernel_rfl) (by simp) ?_
      refine AllReadyH.cons rfl (fun K hK => ?_) AllReadyH.nil
      rw [if_pos (by rfl)]
      go_simp
      go_at_call 18
      refine (word_Text.calls (a3 - a2) (T (a3 - a2)) _ (hT (a3 - a2) (by omega)).1).mono ?_
      rintro e u4 ⟨rfl, hb⟩
      have hS := hb
      have HY4 := Aside0.mk (blk_below HY3.out hS)
      have HV4 := Aside0.mk (RbIs.below HV3.out hS)
      have HD4 := Aside0.mk (below_step HD3.out hS)
      have hS4 : u4.cell? ⟨B5, 0, none⟩ = some (.int .u32 a0) ∧ u4.cell? ⟨B5, 1, none⟩ = some (.int .u32 a1) ∧ u4.cell? ⟨B5, 2, none⟩ = some (.int .u32 a2) ∧ u4.cell? ⟨B5, 3, none⟩ = some (.int .u32 a3) ∧ u4.cell? ⟨B5, 4, none⟩ = some (.int .u32 a4) := ⟨blk_cell HY4.out 0, blk_cell HY4.out 1, blk_cell HY4.out 2, blk_cell HY4.out 3, blk_cell HY4.out 4⟩
      clear hb hS
      go_wp2
      refine hK.out _ _ hS4 (fun hHeld => ?_)
      clear hK
      try simp only [Act.put, List.setIfInBounds_toArray, List.set_cons_zero, List.set_cons_succ]
      refine C.tk_take (i := 31) (v := ?_) (by kernel_rfl) (by kernel_rfl) (by kernel_rfl) (fun oi hoi => ?_) rfl
      rotate_left
      simp only [List.getElem?_toArray, List.getElem?_cons_succ, List.getElem?_cons_zero] at hoi
      cases hoi
      refine ⟨fun _ _ _ h => h, Or.inl ⟨by rfl, ?_⟩, by assumption, ?_⟩
      · (intro w hSw; (try dsimp only at hSw); go_simp; all_goals with_reducible rfl)
      try simp only [Act.put, List.setIfInBounds_toArray, List.set_cons_zero, List.set_cons_succ]
      refine C.tk_take (i := 32) (v := ?_) (by kernel_rfl) (by kernel_rfl) (by kernel_rfl) (fun oi hoi => ?_) rfl
      rotate_left
      simp only [List.getElem?_toArray, List.getElem?_cons_succ, List.getElem?_cons_zero] at hoi
      cases hoi
      refine ⟨fun _ _ _ h => h, Or.inl ⟨by rfl, ?_⟩, by assumption, ?_⟩
      · (intro w hSw; (try dsimp only at hSw); go_simp; all_goals with_reducible rfl)
      try simp only [Act.put, List.setIfInBounds_toArray, List.set_cons_zero, List.set_cons_succ]
      refine wpAnyH_ready (rs := [39]) (by kernel_rfl) (by simp) ?_
      refine AllReadyH.cons rfl (fun K hK => ?_) AllReadyH.nil
      rw [if_pos (by rfl)]
      go_simp
      go_at_call 18
      refine (word_Text.calls (a4 - a3) (T (a4 - a3)) _ (hT (a4 - a3) (by omega)).1).mono ?_
      rintro e u5 ⟨rfl, hb⟩
      have hS := hb
      have HY5 := Aside0.mk (blk_below HY4.out hS)
      have HV5 := Aside0.mk (RbIs.below HV4.out hS)
      have HD5 := Aside0.mk (below_step HD4.out hS)
      have hS5 : u5.cell? ⟨B5, 0, none⟩ = some (.int .u32 a0) ∧ u5.cell? ⟨B5, 1, none⟩ = some (.int .u32 a1) ∧ u5.cell? ⟨B5, 2, none⟩ = some (.int .u32 a2) ∧ u5.cell? ⟨B5, 3, none⟩ = some (.int .u32 a3) ∧ u5.cell? ⟨B5, 4, none⟩ = some (.int .u32 a4) := ⟨blk_cell HY5.out 0, blk_cell HY5.out 1, blk_cell HY5.out 2, blk_cell HY5.out 3, blk_cell HY5.out 4⟩
      clear hb hS
      go_wp2
      refine hK.out _ _ hS5 (fun hHeld => ?_)
      clear hK
      try simp only [Act.put, List.setIfInBounds_toArray, List.set_cons_zero, List.set_cons_succ]
      refine C.tk_take (i := 40) (v := ?_) (by kernel_rfl) (by kernel_rfl) (by kernel_rfl) (fun oi hoi => ?_) rfl
      rotate_left
      simp only [List.getElem?_toArray, List.getElem?_cons_succ, List.getElem?_cons_zero] at hoi
      cases hoi
      refine ⟨fun _ _ _ h => h, Or.inl ⟨by rfl, ?_⟩, by assumption, ?_⟩
      · (intro w hSw; (try dsimp only at hSw); go_simp; all_goals with_reducible rfl)
      try simp only [Act.put, List.setIfInBounds_toArray, List.set_cons_zero, List.set_cons_succ]
      refine C.tk_take (i := 41) (v := ?_) (by kernel_rfl) (by kernel_rfl) (by kernel_rfl) (fun oi hoi => ?_) rfl
      rotate_left
      simp only [List.getElem?_toArray, List.getElem?_cons_succ, List.getElem?_cons_zero] at hoi
      cases hoi
      refine ⟨fun _ _ _ h => h, Or.inl ⟨by rfl, ?_⟩, by assumption, ?_⟩
      · (intro w hSw; (try dsimp only at hSw); go_simp; all_goals with_reducible rfl)
      try simp only [Act.put, List.setIfInBounds_toArray, List.set_cons_zero, List.set_cons_succ]
      refine wpAnyH_ready (rs := [42]) (by kernel_rfl) (by simp) ?_
      refine AllReadyH.cons rfl (fun K hK => ?_) AllReadyH.nil
      rw [if_pos (by rfl)]
      go_simp
      go_at_call 29
      refine (rb_write _ HV5.out (by show _ + (rp_last T a0 a1 a2 a3 a4).size ≤ _; have := HLS.out; have := HSS.out; omega) (Nat.le_trans HWR.out HD5.out.size)).mono ?_
      rintro e u9 ⟨rfl, h1, hb, hk⟩
      have hk9 := hk _ _ HY5.out (fun hh => by injection hh with hh; have := HLT.out; have := HB5.out; omega) (by intro c fz hh; cases hh)
      have HV9 := Aside0.mk h1
      have HB9 := Aside0.mk ((below_then HBW.out HWR.out HD5.out).trans hb)
      have hS9 : u9.cell? ⟨B5, 0, none⟩ = some (.int .u32 a0) ∧ u9.cell? ⟨B5, 1, none⟩ = some (.int .u32 a1) ∧ u9.cell? ⟨B5, 2, none⟩ = some (.int .u32 a2) ∧ u9.cell? ⟨B5, 3, none⟩ = some (.int .u32 a3) ∧ u9.cell? ⟨B5, 4, none⟩ = some (.int .u32 a4) := ⟨blk_cell hk9 0, blk_cell hk9 1, blk_cell hk9 2, blk_cell hk9 3, blk_cell hk9 4⟩
      clear h1 hb hk hk9
      go_wp2
      refine hK.out _ _ hS9 (fun hHeld => ?_)
      clear hK
      try simp only [Act.put, List.setIfInBounds_toArray, List.set_cons_zero, List.set_cons_succ]
      refine wpAnyH_done (by kernel_rfl) ?_ _
      go_wp2_with (go_at_call 30; refine (rb_string HV9.out HB9.out.size).mono ?_; rintro e w9 ⟨rfl, hb⟩; have HB10 := Aside0.mk (HB9.out.trans hb); clear hb)
      go_ret
      exact ⟨rfl, below_step HB1.out HB10.out⟩

end Go.Proofs.Ytmebogkhdbbbbaa.P

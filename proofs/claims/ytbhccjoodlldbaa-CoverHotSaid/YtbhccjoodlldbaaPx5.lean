-- Written by a program of this session (wip/tools/hp.py) out of the translation.
import Derived.Test.YtbhccjoodlldbaaPx0
import Derived.Test.YtbhccjoodlldbaaPx4
namespace Go.Proofs.Ytbhccjoodlldbaa.P
open Go.RowKit Go.Proofs.YtbhccjoodlldbaaW.PrintWords Go.Proofs.YtbhccjoodlldbaaW.PrintLast Go.Proofs.YtbhccjoodlldbaaW.PrintMore
attribute [local go_sem] max2_int min2_int max_two min_two max_three min_three max_four min_four   -- for this text's walks alone
set_option linter.unusedVariables false
set_option linter.unusedSimpArgs false

/-! ### cover_Text: function 14 -/
theorem sb_sized : (Try.prog.info? 61).map (·.size) = some 2 := by kernel_rfl
theorem sb_lies : liesAt Try.prog Try.prog.depth 61 (2 / Try.prog.cellsOf 61) 0 61 1 = true := by kernel_rfl
theorem sb_info : (Try.prog.info? 5).map (fun i => (i.zero, i.size, i.bytes)) = some (some (.int .u8 0), 1, 1) := by kernel_rfl
set_option maxHeartbeats 1000000 in
set_option maxRecDepth 100000 in
theorem sb_check_used (b : Nat) (w : World) (h0 : w.cell? ⟨b, 0, none⟩ = some (.pointer (some ⟨b, 0, none⟩))) :
    Calls Try.prog 27 #[.pointer (some ⟨b, 0, none⟩)] w fun e w' => e = .returned (.tuple #[]) ∧ w' = w := by
  obtain ⟨j, hj, _⟩ := Option.map_eq_some_iff.1 sb_sized
  go_enter Try.func27, Try.ntmps27
  go_wp2
  rw [Lib.run_neq_ptr_same w _ Try.underlying58 hj]
  go_wp2
  go_end0
  exact ⟨rfl, rfl⟩
set_option maxHeartbeats 1000000 in
set_option maxRecDepth 100000 in
theorem sb_check_fresh (b : Nat) (w : World) (h0 : w.cell? ⟨b, 0, none⟩ = some (.pointer none)) (hsh : w.shape? b = some (61, 2)) (hfz : w.frozen? ⟨b, 0, none⟩ = false) :
    Calls Try.prog 27 #[.pointer (some ⟨b, 0, none⟩)] w fun e w' => e = .returned (.tuple #[]) ∧ w' = w.setCell ⟨b, 0, none⟩ (.pointer (some ⟨b, 0, none⟩)) := by
  obtain ⟨j, hj, hjs⟩ := Option.map_eq_some_iff.1 sb_sized
  go_enter Try.func27, Try.ntmps27
  go_wp2
  rw [Lib.run_to_unsafe w ⟨b, 0, none⟩ Try.underlying58 Try.underlying76 hj (by rw [hjs]; decide) hsh (Nat.zero_lt_succ 1)]
  simp only [Result.andThen]
  rw [Oper.upon_value]
  go_wp2
  rw [run_callFunc_extern Try.func31 (by kernel_rfl) (by kernel_rfl) (by kernel_rfl) (e := Extern.AbiNoEscape.same) (by kernel_rfl)]
  rw [Lib.run_noEscape]
  simp only [Result.andThen]
  rw [Oper.upon_value]
  go_wp2
  rw [Lib.run_from_unsafe w ⟨b, 0, none⟩ Try.underlying76 Try.underlying58 hj hsh sb_lies]
  simp only [Result.andThen]
  rw [Oper.upon_value]
  go_wp2
  go_end0
  exact ⟨rfl, rfl⟩
theorem sb_check (B b : Nat) (bs : List Value) (w : World) (h : Lib.IsBuilderF 61 5 B b bs w) :
    Calls Try.prog 27 #[.pointer (some ⟨b, 0, none⟩)] w fun e w' => e = .returned (.tuple #[]) ∧ Lib.BuilderAtF 61 5 B b (.pointer (some ⟨b, 0, none⟩)) bs w' ∧ Below B w w' ∧ Lib.OthersKept 5 (some b) w w' := by
  rcases h with h | h
  · refine (sb_check_fresh b w h.cell0 h.shape h.frozen0).mono ?_
    rintro e w' ⟨rfl, rfl⟩
    exact ⟨rfl, h.used _, (Below.refl B w).setCell (p := ⟨b, 0, none⟩) h.1 _, (Lib.OthersKept.refl _ _ w).setCell ⟨b, 0, none⟩ rfl _⟩
  · refine (sb_check_used b w h.cell0).mono ?_
    rintro e w' ⟨rfl, rfl⟩
    exact ⟨rfl, h, Below.refl B _, Lib.OthersKept.refl _ _ _⟩
set_option maxHeartbeats 2000000 in
set_option maxRecDepth 100000 in
theorem sb_str (B b : Nat) (bs : List Value) (s : ByteArray) (w : World) (h : Lib.IsBuilderF 61 5 B b bs w) (hlen : bs.length + s.size ≤ 140737488355328) (hBw : B ≤ w.heap.size) :
    Calls Try.prog 21 #[.pointer (some ⟨b, 0, none⟩), .string s] w fun e w' => e = .returned (.tuple #[.int .i64 s.size, .nilIface]) ∧ (Lib.BuilderAtF 61 5 B b (.pointer (some ⟨b, 0, none⟩)) (bs ++ Lib.strCells s) w' ∧ Below B w w' ∧ Lib.OthersKept 5 (some b) w w') := by
  obtain ⟨i0, hi, hz0, hz1, hz2⟩ := info_parts sb_info
  go_enter Try.func21, Try.ntmps21
  go_wp2_with (go_at_call 27; refine (sb_check B b bs _ h).mono ?_)
  rintro e w1 ⟨rfl, h1, hb1, hk1⟩
  obtain ⟨hB, v, hbk, hown, hne⟩ := h1
  have c0 : w1.cell? ⟨b, 0, none⟩ = some (.pointer (some ⟨b, 0, none⟩)) := by rw [Lib.cell_of_heap hbk]; rfl
  have c1 : w1.cell? ⟨b, 1, none⟩ = some v := by rw [Lib.cell_of_heap hbk]; rfl
  go_wp2_with (at_builtin; refine Lib.wpList_append_own_stringF _ rfl _ _ 59 9 rfl B 5 i0 Try.underlying59 Try.underlying9 hi hz0 hz1 hz2 _ _ _ rfl hown s rfl ?c3 ?c4 ?c5 ?_)
  case c3 => unfold maxLen; omega
  case c4 => omega
  case c5 => have := hb1.size; omega
  intro v' w2 hown' hgrow _
  have hlt : b < w1.heap.size := blk_lt hbk
  have hb2 : w2.heap[b]? = some (.cells #[.pointer (some ⟨b, 0, none⟩), v] 61 (0, 0)) := by
    rw [hgrow.block b hlt (fun e => hne e.symm)]
    exact hbk
  have d0 : w2.cell? ⟨b, 0, none⟩ = some (.pointer (some ⟨b, 0, none⟩)) := by rw [Lib.cell_of_heap hb2]; rfl
  have d1 : w2.cell? ⟨b, 1, none⟩ = some v := by rw [Lib.cell_of_heap hb2]; rfl
  have f1 : w2.frozen? ⟨b, 1, none⟩ = false := Lib.frozen_of_heap hb2 1
  obtain ⟨ao, n', cap, rfl⟩ : ∃ ao n' cap, v' = .slice ao n' cap := by
    rcases hown'.2 with ⟨hv, _⟩ | ⟨g, cap, cur, fz, hv, _⟩
    · exact ⟨_, _, _, hv⟩
    · exact ⟨_, _, _, hv⟩
  go_wp2
  go_ret2
  refine ⟨rfl, ?_, ?_, (hk1.grown hgrow (Lib.ownsRowF_kind hown)).setCell ⟨b, 1, none⟩ rfl _⟩
  · exact Lib.BuilderAtF.put (T := 61) (e := 5) hB hb2 (bs' := bs ++ Lib.strCells s) (by simpa [Lib.strCells_length] using hown') (by decide)
  · exact (hb1.grown hgrow (by have := hb1.size; omega) (fun k hk => (hown.lt k hk).1)).setCell (p := ⟨b, 1, none⟩) hB _

theorem sb_below {T e B b : Nat} {bs : List Value} {w w' : World} (h : Lib.IsBuilderF T e B b bs w) (hb : Below w.heap.size w w') : Lib.IsBuilderF T e B b bs w' := by
  have one : ∀ p, Lib.BuilderAtF T e B b p bs w → Lib.BuilderAtF T e B b p bs w' := by
    intro p ⟨hB, v, hbk, ⟨hl, hown⟩, hne⟩
    refine ⟨hB, v, (hb.block b (blk_lt hbk)).trans hbk, ⟨hl, ?_⟩, hne⟩
    rcases hown with hn | ⟨g, cap, cur, fz, hv, hg, hgk, rest⟩
    · exact .inl hn
    · exact .inr ⟨g, cap, cur, fz, hv, hg, (hb.block g (blk_lt hgk)).trans hgk, rest⟩
  rcases h with h | h
  · exact .inl (one _ h)
  · exact .inr (one _ h)
theorem sb_lt {T e B b : Nat} {bs : List Value} {w : World} (h : Lib.IsBuilderF T e B b bs w) : b < w.heap.size := by
  have one : ∀ p, Lib.BuilderAtF T e B b p bs w → b < w.heap.size := fun p ⟨_, v, hbk, _⟩ => blk_lt hbk
  rcases h with h | h
  · exact one _ h
  · exact one _ h
theorem sb_cells (s : ByteArray) : Lib.strCells s = Lib.byteCells s.data.toList := by
  unfold Lib.strCells Lib.byteCells
  rfl
def cv_name (s : ByteArray) : ByteArray := if s.toList.isEmpty = true then (⟨#[114, 117, 110, 116, 105, 109, 101]⟩ : ByteArray) else s
def cv_part (words done : Int) : Int := if 0 < words then (100 * done).tdiv words else 0
/-- A part's line, of its name and four texts. -/
def cv_row (nm t1 t2 t3 t4 : ByteArray) : ByteArray := nm ++ (⟨#[32]⟩ : ByteArray) ++ t1 ++ (⟨#[32, 111, 102, 32]⟩ : ByteArray) ++ t2 ++ (⟨#[44, 32]⟩ : ByteArray) ++ t3 ++ (⟨#[32, 111, 102, 32, 49, 48, 48, 44, 32]⟩ : ByteArray) ++ t4 ++ (⟨#[32, 116, 105, 109, 101, 115, 10]⟩ : ByteArray)
def cv_line (x : S38) : Option ByteArray :=
  if x.f0.size ≤ 1000 ∧ (-1000000000 ≤ x.f1 ∧ x.f1 ≤ 1000000000) ∧ (-1000000000 ≤ x.f2 ∧ x.f2 ≤ 1000000000) then
    ((word_Text.f x.f2).bind fun t1 => (word_Text.f x.f1).bind fun t2 => (word_Text.f (cv_part x.f1 x.f2)).bind fun t3 => (word_Text.f x.f3).bind fun t4 => if t1.size ≤ 100 ∧ t2.size ≤ 100 ∧ t3.size ≤ 100 ∧ t4.size ≤ 100 then some (cv_row (cv_name x.f0) t1 t2 t3 t4) else none)
  else none
def cv_ln (x : S38) : ByteArray := (cv_line x).getD ByteArray.empty
def cv_lines (l : List S38) : List UInt8 := l.flatMap (fun x => (cv_ln x).data.toList)
theorem cv_lines_snoc (l : List S38) (x : S38) : cv_lines (l ++ [x]) = cv_lines l ++ (cv_ln x).data.toList := by unfold cv_lines; simp
def cover_Text.f (l0 : List S38) : Option ByteArray := if l0.length ≤ 100 ∧ l0.all (fun x => (cv_line x).isSome) = true then some ⟨(cv_lines l0).toArray⟩ else none
/-- What a part's line comes to, where it comes to one. -/
structure CvOk (x : S38) (t1 t2 t3 t4 : ByteArray) : Prop where
  name : x.f0.size ≤ 1000
  words : -1000000000 ≤ x.f1 ∧ x.f1 ≤ 1000000000
  done : -1000000000 ≤ x.f2 ∧ x.f2 ≤ 1000000000
  e1 : word_Text.f x.f2 = some t1
  e2 : word_Text.f x.f1 = some t2
  e3 : word_Text.f (cv_part x.f1 x.f2) = some t3
  e4 : word_Text.f x.f3 = some t4
  s1 : t1.size ≤ 100
  s2 : t2.size ≤ 100
  s3 : t3.size ≤ 100
  s4 : t4.size ≤ 100
  row : cv_ln x = cv_row (cv_name x.f0) t1 t2 t3 t4
theorem cv_ok (x : S38) (h : (cv_line x).isSome = true) : ∃ t1 t2 t3 t4, CvOk x t1 t2 t3 t4 := by
  obtain ⟨s, hs⟩ := Option.isSome_iff_exists.mp h
  have hln : cv_ln x = s := by unfold cv_ln; rw [hs]; rfl
  unfold cv_line at hs
  by_cases c : x.f0.size ≤ 1000 ∧ (-1000000000 ≤ x.f1 ∧ x.f1 ≤ 1000000000) ∧ (-1000000000 ≤ x.f2 ∧ x.f2 ≤ 1000000000)
  · rw [if_pos c] at hs
    obtain ⟨t1, h1, hs⟩ := Option.bind_eq_some_iff.mp hs
    obtain ⟨t2, h2, hs⟩ := Option.bind_eq_some_iff.mp hs
    obtain ⟨t3, h3, hs⟩ := Option.bind_eq_some_iff.mp hs
    obtain ⟨t4, h4, hs⟩ := Option.bind_eq_some_iff.mp hs
    by_cases d : t1.size ≤ 100 ∧ t2.size ≤ 100 ∧ t3.size ≤ 100 ∧ t4.size ≤ 100
    · rw [if_pos d] at hs
      injection hs with hs
      exact ⟨t1, t2, t3, t4, c.1, c.2.1, c.2.2, h1, h2, h3, h4, d.1, d.2.1, d.2.2.1, d.2.2.2, by rw [hln, ← hs]⟩
    · rw [if_neg d] at hs; cases hs
  · rw [if_neg c] at hs; cases hs
theorem cv_row_size (nm t1 t2 t3 t4 : ByteArray) : (cv_row nm t1 t2 t3 t4).size = nm.size + 1 + t1.size + 4 + t2.size + 2 + t3.size + 9 + t4.size + 7 := by
  unfold cv_row
  simp only [ByteArray.size_append]
  rfl
theorem cv_name_size (s : ByteArray) (h : s.size ≤ 1000) : (cv_name s).size ≤ 1000 := by
  unfold cv_name
  split
  · show 7 ≤ 1000; omega
  · exact h
set_option maxHeartbeats 4000000 in
set_option maxRecDepth 100000 in
theorem cover_Text.calls (A0 : Option Addr) (c0 : Nat) (l0 : List S38) (r : ByteArray) (w : World) (hr0 : Kd.C k38 w A0 l0.length l0) (hc0 : l0.length ≤ c0) (h : cover_Text.f l0 = some r) :
    Calls Try.prog 14 #[.slice A0 l0.length c0] w fun e w' => e = .returned (.string r) ∧ Below w.heap.size w w' := by
  unfold cover_Text.f at h
  by_cases hc : l0.length ≤ 100 ∧ l0.all (fun x => (cv_line x).isSome) = true
  · rw [if_pos hc] at h
    injection h with h
    have HC := Aside0.mk hr0
    have HLN := Aside0.mk (List.all_eq_true.mp hc.2)
    have HR := Aside0.mk h
    have hl := hc.1
    clear h hr0 hc
    go_enter Try.func14, Try.ntmps14
    go_wp2
    go_loopg [10] (l0.length + 1) (fun kx v8 wr => ∃ i : Nat, v8 = .int .i64 i ∧ Aside0 (i + kx = l0.length + 1 ∧ i ≤ l0.length) ∧ Aside0 (Lib.IsBuilderF 61 5 w.heap.size w.heap.size (Lib.byteCells (cv_lines (l0.take i))) wr ∧ Below w.heap.size w wr ∧ (cv_lines (l0.take i)).length ≤ 2000 * i))
    case atStart => exact ⟨0, rfl, ⟨⟨by omega, by omega⟩⟩, ⟨⟨Lib.IsBuilderF.of (Lib.fresh_isBuilder 61 5 w), below_alloc (Below.refl _ _) _, by simp [cv_lines]⟩⟩⟩
    case round =>
      obtain ⟨i, rfl, I, HW⟩ := hrel
      by_cases hi : i < l0.length
      · obtain ⟨ad, e, hx0, hx1, hx2, hx3⟩ := at_T38 HC.out (i : Int) (by omega) (by omega)
        cases e
        rw [Int.toNat_natCast] at hx0 hx1 hx2 hx3
        have er : rd_T38 l0 (i : Int) = l0[i] := by unfold rd_T38; rw [Int.toNat_natCast]; simp [List.getD_eq_getElem?_getD, hi]
        have htk : l0.take (i + 1) = l0.take i ++ [rd_T38 l0 (i : Int)] := by rw [er, List.take_succ_eq_append_getElem hi]
        have hlx := HLN.out (rd_T38 l0 (i : Int)) (by rw [er]; exact List.getElem_mem _)
        replace hx0 := pw_cell_below HW.out.2.1 hx0
        replace hx1 := pw_cell_below HW.out.2.1 hx1
        replace hx2 := pw_cell_below HW.out.2.1 hx2
        replace hx3 := pw_cell_below HW.out.2.1 hx3
        generalize rd_T38 l0 (i : Int) = z at hx0 hx1 hx2 hx3 htk hlx
        obtain ⟨t1, t2, t3, t4, ok⟩ := cv_ok z hlx
        obtain ⟨nm, wd, dn, tm⟩ := z
        have HT := Aside0.mk htk
        have OK := Aside0.mk ok
        clear er htk hlx ok
        dsimp only at hx0 hx1 hx2 hx3
        have hi1 : (i : Int) < (l0.length : Int) := by omega
        have hi0 : (0 : Int) ≤ (i : Int) := by omega
        have hi2 : (i : Int) ≤ 100 := by omega
        have hin : decide (i < l0.length) = true := decide_eq_true hi
        have hd0 : -1000000000 ≤ dn := OK.out.done.1
        have hd1 : dn ≤ 1000000000 := OK.out.done.2
        have hw0 : -1000000000 ≤ wd := OK.out.words.1
        have hw1 : wd ≤ 1000000000 := OK.out.words.2
        obtain ⟨W1, hW1⟩ : ∃ W1, W1 = wr.alloc (.cells #[.string nm, .int .i64 wd, .int .i64 dn, .int .i64 tm] 38) := ⟨_, rfl⟩
        have hB1 : Below wr.heap.size wr W1 := by rw [hW1]; exact below_alloc (Below.refl _ _) _
        have yb : W1.heap[wr.heap.size]? = some (.cells #[.string nm, .int .i64 wd, .int .i64 dn, .int .i64 tm] 38 (0, 0)) := by rw [hW1]; exact blk_new wr _
        have y1 : W1.cell? ⟨wr.heap.size, 1, none⟩ = some (.int .i64 wd) := (blk_cell yb 1).trans rfl
        have y2 : W1.cell? ⟨wr.heap.size, 2, none⟩ = some (.int .i64 dn) := (blk_cell yb 2).trans rfl
        have y3 : W1.cell? ⟨wr.heap.size, 3, none⟩ = some (.int .i64 tm) := (blk_cell yb 3).trans rfl
        have HW1 := Aside0.mk hW1
        have HB1 := Aside0.mk hB1
        have HY := Aside0.mk (And.intro yb (And.intro y1 (And.intro y2 y3)))
        have HU1 := Aside0.mk (sb_below HW.out.1 hB1)
        have HC1 := Aside0.mk (fun w' => word_Text.calls dn t1 w' OK.out.e1)
        have HC2 := Aside0.mk (fun w' => word_Text.calls wd t2 w' OK.out.e2)
        have HC4 := Aside0.mk (fun w' => word_Text.calls tm t4 w' OK.out.e4)
        have hwr := HW.out.2.1.size
        have HWR := Aside0.mk hwr
        have HLT := Aside0.mk (sb_lt HW.out.1)
        clear hB1 hwr hW1 yb
        cases hnm : nm.toList.isEmpty
        · have hnx : cv_name nm = nm := by unfold cv_name; rw [if_neg (by rw [hnm]; decide)]
          by_cases hwd : 0 < wd
          · have he3 : word_Text.f ((100 * dn).tdiv wd) = some t3 := by have h3 := OK.out.e3; unfold cv_part at h3; rwa [if_pos hwd] at h3
            go_wp2
            rw [← HW1.out]
            have hns : nm.size ≤ 1000 := by rw [← hnx]; exact cv_name_size _ OK.out.name
            have HLS := Aside0.mk (show (cv_row nm t1 t2 t3 t4).size ≤ 1500 from by have := OK.out.s1; have := OK.out.s2; have := OK.out.s3; have := OK.out.s4; rw [cv_row_size]; omega)
            have s1 := OK.out.s1
            have s2 := OK.out.s2
            have s3 := OK.out.s3
            have s4 := OK.out.s4
            have z0 : (9223372036854775807 < nm.size + 1) = False := eq_false (by omega)
            have z1 : (9223372036854775807 < nm.size + 1 + t1.size) = False := eq_false (by omega)
            have z2 : (9223372036854775807 < nm.size + 1 + t1.size + 4) = False := eq_false (by omega)
            have z3 : (9223372036854775807 < nm.size + 1 + t1.size + 4 + t2.size) = False := eq_false (by omega)
            have z4 : (9223372036854775807 < nm.size + 1 + t1.size + 4 + t2.size + 2) = False := eq_false (by omega)
            have z5 : (9223372036854775807 < nm.size + 1 + t1.size + 4 + t2.size + 2 + t3.size) = False := eq_false (by omega)
            have z6 : (9223372036854775807 < nm.size + 1 + t1.size + 4 + t2.size + 2 + t3.size + 9) = False := eq_false (by omega)
            have z7 : (9223372036854775807 < nm.size + 1 + t1.size + 4 + t2.size + 2 + t3.size + 9 + t4.size) = False := eq_false (by omega)
            have z8 : (9223372036854775807 < nm.size + 1 + t1.size + 4 + t2.size + 2 + t3.size + 9 + t4.size + 7) = False := eq_false (by omega)
            have HC3 := Aside0.mk (fun w' => word_Text.calls ((100 * dn).tdiv wd) t3 w' he3)
            have HNX := Aside0.mk hnx
            clear hns s1 s2 s3 s4 he3 hnx
            go_region_held3 (fun w' => w'.heap[wr.heap.size]? = some (.cells #[.string nm, .int .i64 wd, .int .i64 dn, .int .i64 tm] 38 (0, 0)) ∧ w'.cell? ⟨wr.heap.size, 1, none⟩ = some (.int .i64 wd) ∧ w'.cell? ⟨wr.heap.size, 2, none⟩ = some (.int .i64 dn) ∧ w'.cell? ⟨wr.heap.size, 3, none⟩ = some (.int .i64 tm)) (first | exact ⟨HY.out.1, y1, y2, y3⟩ | exact HY1.out | exact HY2.out | exact HY3.out | exact HY4.out | exact HY5.out)
              (first | (go_at_call 22; ((with_reducible refine (HC1.out _).mono ?_)); rintro e we1 ⟨rfl, hb⟩; have hS := below_step (below_drew (Below.refl W1.heap.size W1)) hb; have HY1 := Aside0.mk (And.intro ((hS.block _ (blk_lt HY.out.1)).trans HY.out.1) (And.intro (pw_cell_below hS HY.out.2.1) (And.intro (pw_cell_below hS HY.out.2.2.1) (pw_cell_below hS HY.out.2.2.2)))); have HV1 := Aside0.mk (sb_below HU1.out hS); have HD1 := Aside0.mk (below_step HB1.out hS); clear hb hS) | (go_at_call 22; ((with_reducible refine (HC2.out _).mono ?_)); rintro e we2 ⟨rfl, hb⟩; have hS := hb; have HY2 := Aside0.mk (And.intro ((hS.block _ (blk_lt HY1.out.1)).trans HY1.out.1) (And.intro (pw_cell_below hS HY1.out.2.1) (And.intro (pw_cell_below hS HY1.out.2.2.1) (pw_cell_below hS HY1.out.2.2.2)))); have HV2 := Aside0.mk (sb_below HV1.out hS); have HD2 := Aside0.mk (below_step HD1.out hS); clear hb hS) | (go_at_call 22; ((with_reducible refine (HC3.out _).mono ?_)); rintro e we3 ⟨rfl, hb⟩; have hS := hb; have HY3 := Aside0.mk (And.intro ((hS.block _ (blk_lt HY2.out.1)).trans HY2.out.1) (And.intro (pw_cell_below hS HY2.out.2.1) (And.intro (pw_cell_below hS HY2.out.2.2.1) (pw_cell_below hS HY2.out.2.2.2)))); have HV3 := Aside0.mk (sb_below HV2.out hS); have HD3 := Aside0.mk (below_step HD2.out hS); clear hb hS) | (go_at_call 22; ((with_reducible refine (HC4.out _).mono ?_)); rintro e we4 ⟨rfl, hb⟩; have hS := hb; have HY4 := Aside0.mk (And.intro ((hS.block _ (blk_lt HY3.out.1)).trans HY3.out.1) (And.intro (pw_cell_below hS HY3.out.2.1) (And.intro (pw_cell_below hS HY3.out.2.2.1) (pw_cell_below hS HY3.out.2.2.2)))); have HV4 := Aside0.mk (sb_below HV3.out hS); have HD4 := Aside0.mk (below_step HD3.out hS); clear hb hS) | (go_at_call 21; ((with_reducible refine (sb_str w.heap.size w.heap.size _ _ _ HV4.out (by have := HW.out.2.2; rw [Lib.byteCells_length]; have h9 := HLS.out; unfold cv_row at h9; omega) (Nat.le_trans HWR.out HD4.out.size)).mono ?_)); rintro e we5 ⟨rfl, h1, hb, hk⟩; have hk5 := hk _ _ HY4.out.1 (fun hh => by injection hh with hh; have := HLT.out; omega) (by intro c fz hh; cases hh); have HY5 := Aside0.mk (And.intro hk5 (And.intro ((blk_cell hk5 1).trans rfl) (And.intro ((blk_cell hk5 2).trans rfl) ((blk_cell hk5 3).trans rfl)))); have HB5 := Aside0.mk ((below_then HW.out.2.1 HWR.out HD4.out).trans hb); have HU5 := Aside0.mk (show Lib.IsBuilderF 61 5 w.heap.size w.heap.size _ we5 from .inr h1); clear hb h1 hk hk5))
            have HE := Aside0.mk (show Lib.byteCells (cv_lines (l0.take i)) ++ Lib.strCells (cv_row nm t1 t2 t3 t4) = Lib.byteCells (cv_lines (l0.take (i + 1))) from by
              rw [HT.out, cv_lines_snoc, Lib.byteCells_append, sb_cells, OK.out.row, HNX.out])
            go_wp2
            go_roundg (l0.length - i)
            case measure => have := I.out; omega
            case rel => exact ⟨i + 1, by first | rfl | (simp; done), ⟨by have := I.out; omega⟩, ⟨by rw [← HE.out]; exact HU5.out, HB5.out, by
              have h1 := HW.out.2.2
              have h2 := HLS.out
              have h3 : (cv_row nm t1 t2 t3 t4).data.toList.length = (cv_row nm t1 t2 t3 t4).size := data_length _
              rw [HT.out, cv_lines_snoc, List.length_append, OK.out.row, HNX.out, h3]
              omega⟩⟩
          · have he3 : word_Text.f 0 = some t3 := by have h3 := OK.out.e3; unfold cv_part at h3; rwa [if_neg hwd] at h3
            go_wp2
            rw [← HW1.out]
            have hns : nm.size ≤ 1000 := by rw [← hnx]; exact cv_name_size _ OK.out.name
            have HLS := Aside0.mk (show (cv_row nm t1 t2 t3 t4).size ≤ 1500 from by have := OK.out.s1; have := OK.out.s2; have := OK.out.s3; have := OK.out.s4; rw [cv_row_size]; omega)
            have s1 := OK.out.s1
            have s2 := OK.out.s2
            have s3 := OK.out.s3
            have s4 := OK.out.s4
            have z0 : (9223372036854775807 < nm.size + 1) = False := eq_false (by omega)
            have z1 : (9223372036854775807 < nm.size + 1 + t1.size) = False := eq_false (by omega)
            have z2 : (9223372036854775807 < nm.size + 1 + t1.size + 4) = False := eq_false (by omega)
            have z3 : (9223372036854775807 < nm.size + 1 + t1.size + 4 + t2.size) = False := eq_false (by omega)
            have z4 : (9223372036854775807 < nm.size + 1 + t1.size + 4 + t2.size + 2) = False := eq_false (by omega)
            have z5 : (9223372036854775807 < nm.size + 1 + t1.size + 4 + t2.size + 2 + t3.size) = False := eq_false (by omega)
            have z6 : (9223372036854775807 < nm.size + 1 + t1.size + 4 + t2.size + 2 + t3.size + 9) = False := eq_false (by omega)
            have z7 : (9223372036854775807 < nm.size + 1 + t1.size + 4 + t2.size + 2 + t3.size + 9 + t4.size) = False := eq_false (by omega)
            have z8 : (9223372036854775807 < nm.size + 1 + t1.size + 4 + t2.size + 2 + t3.size + 9 + t4.size + 7) = False := eq_false (by omega)
            have HC3 := Aside0.mk (fun w' => word_Text.calls 0 t3 w' he3)
            have HNX := Aside0.mk hnx
            clear hns s1 s2 s3 s4 he3 hnx
            go_region_held3 (fun w' => w'.heap[wr.heap.size]? = some (.cells #[.string nm, .int .i64 wd, .int .i64 dn, .int .i64 tm] 38 (0, 0)) ∧ w'.cell? ⟨wr.heap.size, 1, none⟩ = some (.int .i64 wd) ∧ w'.cell? ⟨wr.heap.size, 2, none⟩ = some (.int .i64 dn) ∧ w'.cell? ⟨wr.heap.size, 3, none⟩ = some (.int .i64 tm)) (first | exact ⟨HY.out.1, y1, y2, y3⟩ | exact HY1.out | exact HY2.out | exact HY3.out | exact HY4.out | exact HY5.out)
              (first | (go_at_call 22; ((with_reducible refine (HC1.out _).mono ?_)); rintro e we1 ⟨rfl, hb⟩; have hS := below_step (below_drew (Below.refl W1.heap.size W1)) hb; have HY1 := Aside0.mk (And.intro ((hS.block _ (blk_lt HY.out.1)).trans HY.out.1) (And.intro (pw_cell_below hS HY.out.2.1) (And.intro (pw_cell_below hS HY.out.2.2.1) (pw_cell_below hS HY.out.2.2.2)))); have HV1 := Aside0.mk (sb_below HU1.out hS); have HD1 := Aside0.mk (below_step HB1.out hS); clear hb hS) | (go_at_call 22; ((with_reducible refine (HC2.out _).mono ?_)); rintro e we2 ⟨rfl, hb⟩; have hS := hb; have HY2 := Aside0.mk (And.intro ((hS.block _ (blk_lt HY1.out.1)).trans HY1.out.1) (And.intro (pw_cell_below hS HY1.out.2.1) (And.intro (pw_cell_below hS HY1.out.2.2.1) (pw_cell_below hS HY1.out.2.2.2)))); have HV2 := Aside0.mk (sb_below HV1.out hS); have HD2 := Aside0.mk (below_step HD1.out hS); clear hb hS) | (go_at_call 22; ((with_reducible refine (HC3.out _).mono ?_)); rintro e we3 ⟨rfl, hb⟩; have hS := hb; have HY3 := Aside0.mk (And.intro ((hS.block _ (blk_lt HY2.out.1)).trans HY2.out.1) (And.intro (pw_cell_below hS HY2.out.2.1) (And.intro (pw_cell_below hS HY2.out.2.2.1) (pw_cell_below hS HY2.out.2.2.2)))); have HV3 := Aside0.mk (sb_below HV2.out hS); have HD3 := Aside0.mk (below_step HD2.out hS); clear hb hS) | (go_at_call 22; ((with_reducible refine (HC4.out _).mono ?_)); rintro e we4 ⟨rfl, hb⟩; have hS := hb; have HY4 := Aside0.mk (And.intro ((hS.block _ (blk_lt HY3.out.1)).trans HY3.out.1) (And.intro (pw_cell_below hS HY3.out.2.1) (And.intro (pw_cell_below hS HY3.out.2.2.1) (pw_cell_below hS HY3.out.2.2.2)))); have HV4 := Aside0.mk (sb_below HV3.out hS); have HD4 := Aside0.mk (below_step HD3.out hS); clear hb hS) | (go_at_call 21; ((with_reducible refine (sb_str w.heap.size w.heap.size _ _ _ HV4.out (by have := HW.out.2.2; rw [Lib.byteCells_length]; have h9 := HLS.out; unfold cv_row at h9; omega) (Nat.le_trans HWR.out HD4.out.size)).mono ?_)); rintro e we5 ⟨rfl, h1, hb, hk⟩; have hk5 := hk _ _ HY4.out.1 (fun hh => by injection hh with hh; have := HLT.out; omega) (by intro c fz hh; cases hh); have HY5 := Aside0.mk (And.intro hk5 (And.intro ((blk_cell hk5 1).trans rfl) (And.intro ((blk_cell hk5 2).trans rfl) ((blk_cell hk5 3).trans rfl)))); have HB5 := Aside0.mk ((below_then HW.out.2.1 HWR.out HD4.out).trans hb); have HU5 := Aside0.mk (show Lib.IsBuilderF 61 5 w.heap.size w.heap.size _ we5 from .inr h1); clear hb h1 hk hk5))
            have HE := Aside0.mk (show Lib.byteCells (cv_lines (l0.take i)) ++ Lib.strCells (cv_row nm t1 t2 t3 t4) = Lib.byteCells (cv_lines (l0.take (i + 1))) from by
              rw [HT.out, cv_lines_snoc, Lib.byteCells_append, sb_cells, OK.out.row, HNX.out])
            go_wp2
            go_roundg (l0.length - i)
            case measure => have := I.out; omega
            case rel => exact ⟨i + 1, by first | rfl | (simp; done), ⟨by have := I.out; omega⟩, ⟨by rw [← HE.out]; exact HU5.out, HB5.out, by
              have h1 := HW.out.2.2
              have h2 := HLS.out
              have h3 : (cv_row nm t1 t2 t3 t4).data.toList.length = (cv_row nm t1 t2 t3 t4).size := data_length _
              rw [HT.out, cv_lines_snoc, List.length_append, OK.out.row, HNX.out, h3]
              omega⟩⟩
        · have hnx : cv_name nm = (⟨#[114, 117, 110, 116, 105, 109, 101]⟩ : ByteArray) := by unfold cv_name; rw [if_pos hnm]
          by_cases hwd : 0 < wd
          · have he3 : word_Text.f ((100 * dn).tdiv wd) = some t3 := by have h3 := OK.out.e3; unfold cv_part at h3; rwa [if_pos hwd] at h3
            go_wp2
            rw [← HW1.out]
            generalize hN : (⟨#[114, 117, 110, 116, 105, 109, 101]⟩ : ByteArray) = nx at hnx
            have hns : nx.size ≤ 1000 := by rw [← hnx]; exact cv_name_size _ OK.out.name
            have HLS := Aside0.mk (show (cv_row nx t1 t2 t3 t4).size ≤ 1500 from by have := OK.out.s1; have := OK.out.s2; have := OK.out.s3; have := OK.out.s4; rw [cv_row_size]; omega)
            have s1 := OK.out.s1
            have s2 := OK.out.s2
            have s3 := OK.out.s3
            have s4 := OK.out.s4
            have z0 : (9223372036854775807 < nx.size + 1) = False := eq_false (by omega)
            have z1 : (9223372036854775807 < nx.size + 1 + t1.size) = False := eq_false (by omega)
            have z2 : (9223372036854775807 < nx.size + 1 + t1.size + 4) = False := eq_false (by omega)
            have z3 : (9223372036854775807 < nx.size + 1 + t1.size + 4 + t2.size) = False := eq_false (by omega)
            have z4 : (9223372036854775807 < nx.size + 1 + t1.size + 4 + t2.size + 2) = False := eq_false (by omega)
            have z5 : (9223372036854775807 < nx.size + 1 + t1.size + 4 + t2.size + 2 + t3.size) = False := eq_false (by omega)
            have z6 : (9223372036854775807 < nx.size + 1 + t1.size + 4 + t2.size + 2 + t3.size + 9) = False := eq_false (by omega)
            have z7 : (9223372036854775807 < nx.size + 1 + t1.size + 4 + t2.size + 2 + t3.size + 9 + t4.size) = False := eq_false (by omega)
            have z8 : (9223372036854775807 < nx.size + 1 + t1.size + 4 + t2.size + 2 + t3.size + 9 + t4.size + 7) = False := eq_false (by omega)
            have HC3 := Aside0.mk (fun w' => word_Text.calls ((100 * dn).tdiv wd) t3 w' he3)
            have HNX := Aside0.mk hnx
            clear hns s1 s2 s3 s4 he3 hnx
            go_region_held3 (fun w' => w'.heap[wr.heap.size]? = some (.cells #[.string nm, .int .i64 wd, .int .i64 dn, .int .i64 tm] 38 (0, 0)) ∧ w'.cell? ⟨wr.heap.size, 1, none⟩ = some (.int .i64 wd) ∧ w'.cell? ⟨wr.heap.size, 2, none⟩ = some (.int .i64 dn) ∧ w'.cell? ⟨wr.heap.size, 3, none⟩ = some (.int .i64 tm)) (first | exact ⟨HY.out.1, y1, y2, y3⟩ | exact HY1.out | exact HY2.out | exact HY3.out | exact HY4.out | exact HY5.out)
              (first | (go_at_call 22; ((with_reducible refine (HC1.out _).mono ?_)); rintro e we1 ⟨rfl, hb⟩; have hS := below_step (below_drew (Below.refl W1.heap.size W1)) hb; have HY1 := Aside0.mk (And.intro ((hS.block _ (blk_lt HY.out.1)).trans HY.out.1) (And.intro (pw_cell_below hS HY.out.2.1) (And.intro (pw_cell_below hS HY.out.2.2.1) (pw_cell_below hS HY.out.2.2.2)))); have HV1 := Aside0.mk (sb_below HU1.out hS); have HD1 := Aside0.mk (below_step HB1.out hS); clear hb hS) | (go_at_call 22; ((with_reducible refine (HC2.out _).mono ?_)); rintro e we2 ⟨rfl, hb⟩; have hS := hb; have HY2 := Aside0.mk (And.intro ((hS.block _ (blk_lt HY1.out.1)).trans HY1.out.1) (And.intro (pw_cell_below hS HY1.out.2.1) (And.intro (pw_cell_below hS HY1.out.2.2.1) (pw_cell_below hS HY1.out.2.2.2)))); have HV2 := Aside0.mk (sb_below HV1.out hS); have HD2 := Aside0.mk (below_step HD1.out hS); clear hb hS) | (go_at_call 22; ((with_reducible refine (HC3.out _).mono ?_)); rintro e we3 ⟨rfl, hb⟩; have hS := hb; have HY3 := Aside0.mk (And.intro ((hS.block _ (blk_lt HY2.out.1)).trans HY2.out.1) (And.intro (pw_cell_below hS HY2.out.2.1) (And.intro (pw_cell_below hS HY2.out.2.2.1) (pw_cell_below hS HY2.out.2.2.2)))); have HV3 := Aside0.mk (sb_below HV2.out hS); have HD3 := Aside0.mk (below_step HD2.out hS); clear hb hS) | (go_at_call 22; ((with_reducible refine (HC4.out _).mono ?_)); rintro e we4 ⟨rfl, hb⟩; have hS := hb; have HY4 := Aside0.mk (And.intro ((hS.block _ (blk_lt HY3.out.1)).trans HY3.out.1) (And.intro (pw_cell_below hS HY3.out.2.1) (And.intro (pw_cell_below hS HY3.out.2.2.1) (pw_cell_below hS HY3.out.2.2.2)))); have HV4 := Aside0.mk (sb_below HV3.out hS); have HD4 := Aside0.mk (below_step HD3.out hS); clear hb hS) | (go_at_call 21; ((with_reducible refine (sb_str w.heap.size w.heap.size _ _ _ HV4.out (by have := HW.out.2.2; rw [Lib.byteCells_length]; have h9 := HLS.out; unfold cv_row at h9; omega) (Nat.le_trans HWR.out HD4.out.size)).mono ?_)); rintro e we5 ⟨rfl, h1, hb, hk⟩; have hk5 := hk _ _ HY4.out.1 (fun hh => by injection hh with hh; have := HLT.out; omega) (by intro c fz hh; cases hh); have HY5 := Aside0.mk (And.intro hk5 (And.intro ((blk_cell hk5 1).trans rfl) (And.intro ((blk_cell hk5 2).trans rfl) ((blk_cell hk5 3).trans rfl)))); have HB5 := Aside0.mk ((below_then HW.out.2.1 HWR.out HD4.out).trans hb); have HU5 := Aside0.mk (show Lib.IsBuilderF 61 5 w.heap.size w.heap.size _ we5 from .inr h1); clear hb h1 hk hk5))
            have HE := Aside0.mk (show Lib.byteCells (cv_lines (l0.take i)) ++ Lib.strCells (cv_row nx t1 t2 t3 t4) = Lib.byteCells (cv_lines (l0.take (i + 1))) from by
              rw [HT.out, cv_lines_snoc, Lib.byteCells_append, sb_cells, OK.out.row, HNX.out])
            go_wp2
            go_roundg (l0.length - i)
            case measure => have := I.out; omega
            case rel => exact ⟨i + 1, by first | rfl | (simp; done), ⟨by have := I.out; omega⟩, ⟨by rw [← HE.out]; exact HU5.out, HB5.out, by
              have h1 := HW.out.2.2
              have h2 := HLS.out
              have h3 : (cv_row nx t1 t2 t3 t4).data.toList.length = (cv_row nx t1 t2 t3 t4).size := data_length _
              rw [HT.out, cv_lines_snoc, List.length_append, OK.out.row, HNX.out, h3]
              omega⟩⟩
          · have he3 : word_Text.f 0 = some t3 := by have h3 := OK.out.e3; unfold cv_part at h3; rwa [if_neg hwd] at h3
            go_wp2
            rw [← HW1.out]
            generalize hN : (⟨#[114, 117, 110, 116, 105, 109, 101]⟩ : ByteArray) = nx at hnx
            have hns : nx.size ≤ 1000 := by rw [← hnx]; exact cv_name_size _ OK.out.name
            have HLS := Aside0.mk (show (cv_row nx t1 t2 t3 t4).size ≤ 1500 from by have := OK.out.s1; have := OK.out.s2; have := OK.out.s3; have := OK.out.s4; rw [cv_row_size]; omega)
            have s1 := OK.out.s1
            have s2 := OK.out.s2
            have s3 := OK.out.s3
            have s4 := OK.out.s4
            have z0 : (9223372036854775807 < nx.size + 1) = False := eq_false (by omega)
            have z1 : (9223372036854775807 < nx.size + 1 + t1.size) = False := eq_false (by omega)
            have z2 : (9223372036854775807 < nx.size + 1 + t1.size + 4) = False := eq_false (by omega)
            have z3 : (9223372036854775807 < nx.size + 1 + t1.size + 4 + t2.size) = False := eq_false (by omega)
            have z4 : (9223372036854775807 < nx.size + 1 + t1.size + 4 + t2.size + 2) = False := eq_false (by omega)
            have z5 : (9223372036854775807 < nx.size + 1 + t1.size + 4 + t2.size + 2 + t3.size) = False := eq_false (by omega)
            have z6 : (9223372036854775807 < nx.size + 1 + t1.size + 4 + t2.size + 2 + t3.size + 9) = False := eq_false (by omega)
            have z7 : (9223372036854775807 < nx.size + 1 + t1.size + 4 + t2.size + 2 + t3.size + 9 + t4.size) = False := eq_false (by omega)
            have z8 : (9223372036854775807 < nx.size + 1 + t1.size + 4 + t2.size + 2 + t3.size + 9 + t4.size + 7) = False := eq_false (by omega)
            have HC3 := Aside0.mk (fun w' => word_Text.calls 0 t3 w' he3)
            have HNX := Aside0.mk hnx
            clear hns s1 s2 s3 s4 he3 hnx
            go_region_held3 (fun w' => w'.heap[wr.heap.size]? = some (.cells #[.string nm, .int .i64 wd, .int .i64 dn, .int .i64 tm] 38 (0, 0)) ∧ w'.cell? ⟨wr.heap.size, 1, none⟩ = some (.int .i64 wd) ∧ w'.cell? ⟨wr.heap.size, 2, none⟩ = some (.int .i64 dn) ∧ w'.cell? ⟨wr.heap.size, 3, none⟩ = some (.int .i64 tm)) (first | exact ⟨HY.out.1, y1, y2, y3⟩ | exact HY1.out | exact HY2.out | exact HY3.out | exact HY4.out | exact HY5.out)
              (first | (go_at_call 22; ((with_reducible refine (HC1.out _).mono ?_)); rintro e we1 ⟨rfl, hb⟩; have hS := below_step (below_drew (Below.refl W1.heap.size W1)) hb; have HY1 := Aside0.mk (And.intro ((hS.block _ (blk_lt HY.out.1)).trans HY.out.1) (And.intro (pw_cell_below hS HY.out.2.1) (And.intro (pw_cell_below hS HY.out.2.2.1) (pw_cell_below hS HY.out.2.2.2)))); have HV1 := Aside0.mk (sb_below HU1.out hS); have HD1 := Aside0.mk (below_step HB1.out hS); clear hb hS) | (go_at_call 22; ((with_reducible refine (HC2.out _).mono ?_)); rintro e we2 ⟨rfl, hb⟩; have hS := hb; have HY2 := Aside0.mk (And.intro ((hS.block _ (blk_lt HY1.out.1)).trans HY1.out.1) (And.intro (pw_cell_below hS HY1.out.2.1) (And.intro (pw_cell_below hS HY1.out.2.2.1) (pw_cell_below hS HY1.out.2.2.2)))); have HV2 := Aside0.mk (sb_below HV1.out hS); have HD2 := Aside0.mk (below_step HD1.out hS); clear hb hS) | (go_at_call 22; ((with_reducible refine (HC3.out _).mono ?_)); rintro e we3 ⟨rfl, hb⟩; have hS := hb; have HY3 := Aside0.mk (And.intro ((hS.block _ (blk_lt HY2.out.1)).trans HY2.out.1) (And.intro (pw_cell_below hS HY2.out.2.1) (And.intro (pw_cell_below hS HY2.out.2.2.1) (pw_cell_below hS HY2.out.2.2.2)))); have HV3 := Aside0.mk (sb_below HV2.out hS); have HD3 := Aside0.mk (below_step HD2.out hS); clear hb hS) | (go_at_call 22; ((with_reducible refine (HC4.out _).mono ?_)); rintro e we4 ⟨rfl, hb⟩; have hS := hb; have HY4 := Aside0.mk (And.intro ((hS.block _ (blk_lt HY3.out.1)).trans HY3.out.1) (And.intro (pw_cell_below hS HY3.out.2.1) (And.intro (pw_cell_below hS HY3.out.2.2.1) (pw_cell_below hS HY3.out.2.2.2)))); have HV4 := Aside0.mk (sb_below HV3.out hS); have HD4 := Aside0.mk (below_step HD3.out hS); clear hb hS) | (go_at_call 21; ((with_reducible refine (sb_str w.heap.size w.heap.size _ _ _ HV4.out (by have := HW.out.2.2; rw [Lib.byteCells_length]; have h9 := HLS.out; unfold cv_row at h9; omega) (Nat.le_trans HWR.out HD4.out.size)).mono ?_)); rintro e we5 ⟨rfl, h1, hb, hk⟩; have hk5 := hk _ _ HY4.out.1 (fun hh => by injection hh with hh; have := HLT.out; omega) (by intro c fz hh; cases hh); have HY5 := Aside0.mk (And.intro hk5 (And.intro ((blk_cell hk5 1).trans rfl) (And.intro ((blk_cell hk5 2).trans rfl) ((blk_cell hk5 3).trans rfl)))); have HB5 := Aside0.mk ((below_then HW.out.2.1 HWR.out HD4.out).trans hb); have HU5 := Aside0.mk (show Lib.IsBuilderF 61 5 w.heap.size w.heap.size _ we5 from .inr h1); clear hb h1 hk hk5))
            have HE := Aside0.mk (show Lib.byteCells (cv_lines (l0.take i)) ++ Lib.strCells (cv_row nx t1 t2 t3 t4) = Lib.byteCells (cv_lines (l0.take (i + 1))) from by
              rw [HT.out, cv_lines_snoc, Lib.byteCells_append, sb_cells, OK.out.row, HNX.out])
            go_wp2
            go_roundg (l0.length - i)
            case measure => have := I.out; omega
            case rel => exact ⟨i + 1, by first | rfl | (simp; done), ⟨by have := I.out; omega⟩, ⟨by rw [← HE.out]; exact HU5.out, HB5.out, by
              have h1 := HW.out.2.2
              have h2 := HLS.out
              have h3 : (cv_row nx t1 t2 t3 t4).data.toList.length = (cv_row nx t1 t2 t3 t4).size := data_length _
              rw [HT.out, cv_lines_snoc, List.length_append, OK.out.row, HNX.out, h3]
              omega⟩⟩
      · have hi1 : decide ((i : Int) < (l0.length : Int)) = false := decide_eq_false (by omega)
        have hin : decide (i < l0.length) = false := decide_eq_false hi
        have HI := Aside0.mk (show i = l0.length by have := I.out; omega)
        go_wp2_with (go_at_call 23; ((with_reducible refine (Go.Proofs.Ytbhccjoodlldbaa.C.sh_Builder_String_any_k w.heap.size w.heap.size _ _ HW.out.1 HW.out.2.1.size).mono ?_)); rintro e w4 ⟨rfl, _, hb, _⟩; have HB4 := Aside0.mk (HW.out.2.1.trans hb); clear hb)
        go_ret
        exact ⟨by rw [← HR.out, HI.out, List.take_length]; rfl, HB4.out⟩
  · rw [if_neg hc] at h; exact absurd h (by simp)

end Go.Proofs.Ytbhccjoodlldbaa.P

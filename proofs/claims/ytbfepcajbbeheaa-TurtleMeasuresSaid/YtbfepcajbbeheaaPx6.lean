-- Written by a program of this session (wip/tools/hp.py) out of the translation.
import Derived.Test.YtbfepcajbbeheaaPx0
import Derived.Test.YtbfepcajbbeheaaPx1
import Derived.Test.YtbfepcajbbeheaaPx4
import Derived.Test.YtbfepcajbbeheaaPx5
namespace Go.Proofs.Ytbfepcajbbeheaa.P
open Go.RowKit Go.Proofs.YtbfepcajbbeheaaW.PrintWords Go.Proofs.YtbfepcajbbeheaaW.PrintLast Go.Proofs.YtbfepcajbbeheaaW.PrintMore
attribute [local go_sem] max2_int min2_int max_two min_two max_three min_three max_four min_four   -- for this text's walks alone
set_option linter.unusedVariables false
set_option linter.unusedSimpArgs false

/-! ### turtle_Turtle_Text: function 16 -/
theorem sb_sized : (Try.prog.info? 76).map (·.size) = some 2 := by kernel_rfl
theorem sb_lies : liesAt Try.prog Try.prog.depth 76 (2 / Try.prog.cellsOf 76) 0 76 1 = true := by kernel_rfl
theorem sb_info : (Try.prog.info? 5).map (fun i => (i.zero, i.size, i.bytes)) = some (some (.int .u8 0), 1, 1) := by kernel_rfl
set_option maxHeartbeats 1000000 in
set_option maxRecDepth 100000 in
theorem sb_check_used (b : Nat) (w : World) (h0 : w.cell? ⟨b, 0, none⟩ = some (.pointer (some ⟨b, 0, none⟩))) :
    Calls Try.prog 36 #[.pointer (some ⟨b, 0, none⟩)] w fun e w' => e = .returned (.tuple #[]) ∧ w' = w := by
  obtain ⟨j, hj, _⟩ := Option.map_eq_some_iff.1 sb_sized
  go_enter Try.func36, Try.ntmps36
  go_wp2
  rw [Lib.run_neq_ptr_same w _ Try.underlying73 hj]
  go_wp2
  go_end0
  exact ⟨rfl, rfl⟩
set_option maxHeartbeats 1000000 in
set_option maxRecDepth 100000 in
theorem sb_check_fresh (b : Nat) (w : World) (h0 : w.cell? ⟨b, 0, none⟩ = some (.pointer none)) (hsh : w.shape? b = some (76, 2)) (hfz : w.frozen? ⟨b, 0, none⟩ = false) :
    Calls Try.prog 36 #[.pointer (some ⟨b, 0, none⟩)] w fun e w' => e = .returned (.tuple #[]) ∧ w' = w.setCell ⟨b, 0, none⟩ (.pointer (some ⟨b, 0, none⟩)) := by
  obtain ⟨j, hj, hjs⟩ := Option.map_eq_some_iff.1 sb_sized
  go_enter Try.func36, Try.ntmps36
  go_wp2
  rw [Lib.run_to_unsafe w ⟨b, 0, none⟩ Try.underlying73 Try.underlying89 hj (by rw [hjs]; decide) hsh (Nat.zero_lt_succ 1)]
  simp only [Result.andThen]
  rw [Oper.upon_value]
  go_wp2
  rw [run_callFunc_extern Try.func38 (by kernel_rfl) (by kernel_rfl) (by kernel_rfl) (e := Extern.AbiNoEscape.same) (by kernel_rfl)]
  rw [Lib.run_noEscape]
  simp only [Result.andThen]
  rw [Oper.upon_value]
  go_wp2
  rw [Lib.run_from_unsafe w ⟨b, 0, none⟩ Try.underlying89 Try.underlying73 hj hsh sb_lies]
  simp only [Result.andThen]
  rw [Oper.upon_value]
  go_wp2
  go_end0
  exact ⟨rfl, rfl⟩
theorem sb_check (B b : Nat) (bs : List Value) (w : World) (h : Lib.IsBuilderF 76 5 B b bs w) :
    Calls Try.prog 36 #[.pointer (some ⟨b, 0, none⟩)] w fun e w' => e = .returned (.tuple #[]) ∧ Lib.BuilderAtF 76 5 B b (.pointer (some ⟨b, 0, none⟩)) bs w' ∧ Below B w w' ∧ Lib.OthersKept 5 (some b) w w' := by
  rcases h with h | h
  · refine (sb_check_fresh b w h.cell0 h.shape h.frozen0).mono ?_
    rintro e w' ⟨rfl, rfl⟩
    exact ⟨rfl, h.used _, (Below.refl B w).setCell (p := ⟨b, 0, none⟩) h.1 _, (Lib.OthersKept.refl _ _ w).setCell ⟨b, 0, none⟩ rfl _⟩
  · refine (sb_check_used b w h.cell0).mono ?_
    rintro e w' ⟨rfl, rfl⟩
    exact ⟨rfl, h, Below.refl B _, Lib.OthersKept.refl _ _ _⟩
set_option maxHeartbeats 2000000 in
set_option maxRecDepth 100000 in
theorem sb_str (B b : Nat) (bs : List Value) (s : ByteArray) (w : World) (h : Lib.IsBuilderF 76 5 B b bs w) (hlen : bs.length + s.size ≤ 140737488355328) (hBw : B ≤ w.heap.size) :
    Calls Try.prog 28 #[.pointer (some ⟨b, 0, none⟩), .string s] w fun e w' => e = .returned (.tuple #[.int .i64 s.size, .nilIface]) ∧ (Lib.BuilderAtF 76 5 B b (.pointer (some ⟨b, 0, none⟩)) (bs ++ Lib.strCells s) w' ∧ Below B w w' ∧ Lib.OthersKept 5 (some b) w w') := by
  obtain ⟨i0, hi, hz0, hz1, hz2⟩ := info_parts sb_info
  go_enter Try.func28, Try.ntmps28
  go_wp2_with (go_at_call 36; refine (sb_check B b bs _ h).mono ?_)
  rintro e w1 ⟨rfl, h1, hb1, hk1⟩
  obtain ⟨hB, v, hbk, hown, hne⟩ := h1
  have c0 : w1.cell? ⟨b, 0, none⟩ = some (.pointer (some ⟨b, 0, none⟩)) := by rw [Lib.cell_of_heap hbk]; rfl
  have c1 : w1.cell? ⟨b, 1, none⟩ = some v := by rw [Lib.cell_of_heap hbk]; rfl
  go_wp2_with (at_builtin; refine Lib.wpList_append_own_stringF _ rfl _ _ 74 9 rfl B 5 i0 Try.underlying74 Try.underlying9 hi hz0 hz1 hz2 _ _ _ rfl hown s rfl ?c3 ?c4 ?c5 ?_)
  case c3 => unfold maxLen; omega
  case c4 => omega
  case c5 => have := hb1.size; omega
  intro v' w2 hown' hgrow _
  have hlt : b < w1.heap.size := blk_lt hbk
  have hb2 : w2.heap[b]? = some (.cells #[.pointer (some ⟨b, 0, none⟩), v] 76 (0, 0)) := by
    rw [hgrow.block b hlt (fun e => hne e.symm)]
    exact hbk
  have d0 : w2.cell? ⟨b, 0, none⟩ = some (.pointer (some ⟨b, 0, none⟩)) := by rw [Lib.cell_of_heap hb2]; rfl
  have d1 : w2.cell? ⟨b, 1, none⟩ = some v := by rw [Lib.cell_of_heap hb2]; rfl
  have f1 : w2.frozen? ⟨b, 1, none⟩ = false := Lib.frozen_of_heap hb2 1
  obtain ⟨ao, n', cap, rfl⟩ : ∃ ao n' cap, v' = .slice ao n' cap := by
    rcases hown'.2 with ⟨hv, _⟩ | ⟨g, cap, cur, fz, hv, _⟩
    · exact ⟨_, _, _, hv⟩
    · exact ⟨_, _, _, hv⟩
  go_wp2
  go_ret2
  refine ⟨rfl, ?_, ?_, (hk1.grown hgrow (Lib.ownsRowF_kind hown)).setCell ⟨b, 1, none⟩ rfl _⟩
  · exact Lib.BuilderAtF.put (T := 76) (e := 5) hB hb2 (bs' := bs ++ Lib.strCells s) (by simpa [Lib.strCells_length] using hown') (by decide)
  · exact (hb1.grown hgrow (by have := hb1.size; omega) (fun k hk => (hown.lt k hk).1)).setCell (p := ⟨b, 1, none⟩) hB _

open Go.Proofs.Ytbfepcajbbeheaa.C
theorem sb_below {T e B b : Nat} {bs : List Value} {w w' : World} (h : Lib.IsBuilderF T e B b bs w) (hb : Below w.heap.size w w') : Lib.IsBuilderF T e B b bs w' := by
  have one : ∀ p, Lib.BuilderAtF T e B b p bs w → Lib.BuilderAtF T e B b p bs w' := by
    intro p ⟨hB, v, hbk, ⟨hl, hown⟩, hne⟩
    refine ⟨hB, v, (hb.block b (blk_lt hbk)).trans hbk, ⟨hl, ?_⟩, hne⟩
    rcases hown with hn | ⟨g, cap, cur, fz, hv, hg, hgk, rest⟩
    · exact .inl hn
    · exact .inr ⟨g, cap, cur, fz, hv, hg, (hb.block g (blk_lt hgk)).trans hgk, rest⟩
  rcases h with h | h
  · exact .inl (one _ h)
  · exact .inr (one _ h)
theorem sb_lt {T e B b : Nat} {bs : List Value} {w : World} (h : Lib.IsBuilderF T e B b bs w) : b < w.heap.size := by
  have one : ∀ p, Lib.BuilderAtF T e B b p bs w → b < w.heap.size := fun p ⟨_, v, hbk, _⟩ => blk_lt hbk
  rcases h with h | h
  · exact one _ h
  · exact one _ h
theorem sb_cells (s : ByteArray) : Lib.strCells s = Lib.byteCells s.data.toList := by
  unfold Lib.strCells Lib.byteCells
  rfl
theorem tu_at {w : World} {A : Option Addr} {n : Nat} {xs : List S70} (h : Kd.C kSt w A n xs) (i : Nat) (hi : i < xs.length) (h1 : (i : Int) < n) : ∃ ad a b c d, A = some ad ∧ w.cell? (ad.add (i * 2)) = some (.complex .f64 a b) ∧ w.cell? ⟨(ad.add (i * 2)).block, (ad.add (i * 2)).off + 1, none⟩ = some (.complex .f64 c d) ∧
    Fl a xs[i].f0 ∧ Fl b xs[i].f1 ∧ Fl c xs[i].f2 ∧ Fl d xs[i].f3 := by
  obtain ⟨ad, cs, e, _, hK, hc0⟩ := Kd.C_get h z70 (i : Int) (by omega) h1
  rw [Int.toNat_natCast] at hK hc0
  have hc : ∀ j u, cs[j]? = some u → w.cell? (ad.add (i * 2 + j)) = some u := hc0
  have er : xs.getD i z70 = xs[i] := by simp [List.getD_eq_getElem?_getD, hi]
  rw [er] at hK
  obtain ⟨q1, q2, rfl, ⟨a, b, rfl, f1, f2⟩, ⟨c, d, rfl, f3, f4⟩⟩ := hK
  exact ⟨ad, a, b, c, d, e, hc 0 _ rfl, by rw [← add_field _ _ 1 (by omega)]; exact hc 1 _ rfl, f1, f2, f3, f4⟩
/-- The text of a number, where it has one of at most 100 bytes. -/
def tu_num (n : Int) (t : ByteArray) : Prop := (-9223372036854775808 ≤ n ∧ n ≤ 9223372036854775807) ∧ word_Text.f n = some t ∧ t.size ≤ 100
abbrev tu_row (t1 t2 t3 t4 : ByteArray) : ByteArray := tu_place t1 t2 ++ (⟨#[32]⟩ : ByteArray) ++ tu_place t3 t4 ++ (⟨#[10]⟩ : ByteArray)
/-- A stroke's line. -/
def tu_line (x : S70) (s : ByteArray) : Prop := ∃ t1 t2 t3 t4, tu_num x.f0 t1 ∧ tu_num x.f1 t2 ∧ tu_num x.f2 t3 ∧ tu_num x.f3 t4 ∧ s = tu_row t1 t2 t3 t4
def tu_bytes (L : List ByteArray) : List UInt8 := L.flatMap (fun s => s.data.toList)
theorem tu_bytes_snoc (L : List ByteArray) (s : ByteArray) : tu_bytes (L ++ [s]) = tu_bytes L ++ s.data.toList := by unfold tu_bytes; simp
abbrev tu_last (t1 t2 : ByteArray) : ByteArray := (⟨#[97, 116, 32]⟩ : ByteArray) ++ tu_place t1 t2 ++ (⟨#[10]⟩ : ByteArray)
theorem tu_place_size (t1 t2 : ByteArray) : (tu_place t1 t2).size = t1.size + 1 + t2.size := by
  unfold tu_place; simp only [ByteArray.size_append]; rfl
theorem tu_row_size (t1 t2 t3 t4 : ByteArray) : (tu_row t1 t2 t3 t4).size = t1.size + 1 + t2.size + 1 + (t3.size + 1 + t4.size) + 1 := by
  unfold tu_row; simp only [ByteArray.size_append, tu_place_size]; rfl
theorem tu_kept {e : TypeId} {b g : Nat} {cs : Array Value} {w w' : World} {T : TypeId} (h : Lib.OthersKept e (some b) w w') (hg : w.heap[g]? = some (.cells cs T (0, 0))) (hne : g ≠ b) (ht : T ≠ e := by decide) : w'.heap[g]? = some (.cells cs T (0, 0)) :=
  h g _ hg (fun he => hne (by injection he)) (fun c fz he => ht (by injection he))
set_option maxRecDepth 100000 in
set_option maxHeartbeats 4000000 in
theorem tu_Text_calls (base g : Nat) (T : Tu) (L : List ByteArray) (t1 t2 : ByteArray) (w : World) (hT : IsT base w g T) (hB : base ≤ w.heap.size) (hl : T.l.length ≤ 100000) (hL : L.length = T.l.length) (hLs : ∀ (i : Nat) (h1 : i < T.l.length) (h2 : i < L.length), tu_line T.l[i] L[i]) (hx : tu_num T.x t1) (hy : tu_num T.y t2) :
    Calls Try.prog 16 #[.pointer (some ⟨g, 0, none⟩)] w fun e w' => e = .returned (.string ⟨(tu_bytes L ++ (tu_last t1 t2).data.toList).toArray⟩) ∧ Below w.heap.size w w' := by
  have HT := Aside0.mk hT; have HL := Aside0.mk hL; have HLS := Aside0.mk hLs; have HX := Aside0.mk hx; have HY := Aside0.mk hy; have HLL := Aside0.mk hl
  obtain ⟨ax, ay, lx, ly, s, v, hblk, hf, hR, hg⟩ := hT
  obtain ⟨A, c, rfl, hc, hC⟩ := Kd.R_reads hR
  have HK := Aside0.mk hblk; have HC := Aside0.mk hC; have HF := Aside0.mk hf
  have c4 : w.cell? ⟨g, 4, none⟩ = some (.slice A T.l.length c) := blk_cell hblk 4
  have c4a : ∀ o : Obj, (w.alloc o).cell? ⟨g, 4, none⟩ = some (.slice A T.l.length c) := fun o => blk_cell (blk_alloc hblk o) 4
  clear hblk hf hR hg hC hB hl hL hLs hx hy hc
  go_enter Try.func16, Try.ntmps16
  go_wp2
  go_loopg [11] (T.l.length + 1) (fun kx v11 wr => ∃ i : Nat, v11 = .int .i64 i ∧ Aside0 (i + kx = T.l.length + 1 ∧ i ≤ T.l.length) ∧ Aside0 (Lib.IsBuilderF 76 5 w.heap.size w.heap.size (Lib.byteCells (tu_bytes (L.take i))) wr ∧ Below w.heap.size w wr ∧ (tu_bytes (L.take i)).length ≤ 500 * i))
  case atStart => exact ⟨0, rfl, ⟨⟨by omega, by omega⟩⟩, ⟨⟨Lib.IsBuilderF.of (Lib.fresh_isBuilder 76 5 w), below_alloc (Below.refl _ _) _, by simp [tu_bytes]⟩⟩⟩
  case round =>
    obtain ⟨i, rfl, HI, HW⟩ := hrel
    by_cases hi : i < T.l.length
    · obtain ⟨ad, a, b, cc, d, e, hx0, hx1, f1, f2, f3, f4⟩ := tu_at HC.out i hi (by omega)
      cases e
      have hiL : i < L.length := by rw [HL.out]; exact hi
      obtain ⟨q1, q2, q3, q4, n1, n2, n3, n4, eL⟩ := HLS.out i hi hiL
      replace hx0 := pw_cell_below HW.out.2.1 hx0
      replace hx1 := pw_cell_below HW.out.2.1 hx1
      have HEL := Aside0.mk (show Lib.byteCells (tu_bytes (L.take i)) ++ Lib.strCells (tu_row q1 q2 q3 q4) = Lib.byteCells (tu_bytes (L.take (i + 1))) from by
        rw [List.take_succ_eq_append_getElem hiL, tu_bytes_snoc, Lib.byteCells_append, sb_cells, eL])
      have HEN := Aside0.mk (show (tu_bytes (L.take (i + 1))).length = (tu_bytes (L.take i)).length + (tu_row q1 q2 q3 q4).size from by
        rw [List.take_succ_eq_append_getElem hiL, tu_bytes_snoc, List.length_append, eL]; exact congrArg ((tu_bytes (L.take i)).length + ·) (data_length _))
      have hrs := tu_row_size q1 q2 q3 q4
      have HRS := Aside0.mk (show (tu_row q1 q2 q3 q4).size ≤ 500 from by have := n1.2.2; have := n2.2.2; have := n3.2.2; have := n4.2.2; omega)
      have z1 : (9223372036854775807 < (tu_place q1 q2).size + 1) = False := eq_false (by rw [tu_place_size]; have := n1.2.2; have := n2.2.2; omega)
      have z2 : (9223372036854775807 < (tu_place q1 q2).size + 1 + (tu_place q3 q4).size) = False := eq_false (by rw [tu_place_size, tu_place_size]; have := n1.2.2; have := n2.2.2; have := n3.2.2; have := n4.2.2; omega)
      have z3 : (9223372036854775807 < (tu_place q1 q2).size + 1 + (tu_place q3 q4).size + 1) = False := eq_false (by rw [tu_place_size, tu_place_size]; have := n1.2.2; have := n2.2.2; have := n3.2.2; have := n4.2.2; omega)
      have HC1 := Aside0.mk (fun w' => tu_text_calls a b _ _ f1 f2 n1.1 n2.1 q1 q2 n1.2.1 n2.2.1 n1.2.2 n2.2.2 w')
      have HC2 := Aside0.mk (fun w' => tu_text_calls cc d _ _ f3 f4 n3.1 n4.1 q3 q4 n3.2.1 n4.2.1 n3.2.2 n4.2.2 w')
      clear f1 f2 f3 f4 n1 n2 n3 n4 eL hrs hiL
      have hi1 : (i : Int) < (T.l.length : Int) := by omega
      have hi0 : (0 : Int) ≤ (i : Int) := by omega
      have hin : decide (i < T.l.length) = true := decide_eq_true hi
      have hjn : decide ((i : Int) < (T.l.length : Int)) = true := decide_eq_true hi1
      have hst : ∀ (p : Addr) (q r : Nat) (w : World), (store p (.complex .f64 q r)).run Try.prog w = stored Try.prog w p (.complex .f64 q r) .plain := fun p q r w => run_store Try.prog w p _ .plain rfl
      have HRM := Aside0.mk (show (Lib.byteCells (tu_bytes (L.take i))).length + (tu_row q1 q2 q3 q4).size ≤ 140737488355328 from by
        have h1 := HRS.out; have h2 := HW.out.2.2; have h3 := HI.out; have h4 := HLL.out
        have h5 : (Lib.byteCells (tu_bytes (L.take i))).length = (tu_bytes (L.take i)).length := by simp [Lib.byteCells]
        omega)
      go_wp2
      obtain ⟨W1, hW1⟩ : ∃ W1, wr.alloc (.cells #[.complex .f64 a b, .complex .f64 cc d] 68) = W1 := ⟨_, rfl⟩
      have hb1 : Below wr.heap.size wr W1 := by rw [← hW1]; exact below_alloc (Below.refl _ _) _
      have yb : W1.heap[wr.heap.size]? = some (.cells #[.complex .f64 a b, .complex .f64 cc d] 68 (0, 0)) := by rw [← hW1]; exact blk_new _ _
      rw [hW1]
      have y0 : W1.cell? ⟨wr.heap.size, 0, none⟩ = some (.complex .f64 a b) := (blk_cell yb 0).trans rfl
      have y1 : W1.cell? ⟨wr.heap.size, 1, none⟩ = some (.complex .f64 cc d) := (blk_cell yb 1).trans rfl
      have HY0 := Aside0.mk (And.intro yb (And.intro y0 y1))
      have HV0 := Aside0.mk (sb_below HW.out.1 hb1)
      have HD0 := Aside0.mk (below_step HW.out.2.1 hb1)
      have HNE := Aside0.mk (Nat.ne_of_gt (sb_lt HW.out.1))
      clear hW1 hb1 yb
      go_region_held3 (fun w' => w'.heap[wr.heap.size]? = some (.cells #[.complex .f64 a b, .complex .f64 cc d] 68 (0, 0)) ∧ w'.cell? ⟨wr.heap.size, 0, none⟩ = some (.complex .f64 a b) ∧ w'.cell? ⟨wr.heap.size, 1, none⟩ = some (.complex .f64 cc d)) (first | exact HY3.out | exact HY2.out | exact HY1.out | exact ⟨HY0.out.1, y0, y1⟩) (first | (go_at_call 29; ((with_reducible refine (HC1.out _).mono ?_)); rintro e we1 ⟨rfl, hb⟩; have hS := below_step (below_drew (Below.refl W1.heap.size W1)) hb; have HY1 := Aside0.mk (And.intro ((hS.block _ (blk_lt HY0.out.1)).trans HY0.out.1) (And.intro (pw_cell_below hS HY0.out.2.1) (pw_cell_below hS HY0.out.2.2))); have HV1 := Aside0.mk (sb_below HV0.out hS); have HD1 := Aside0.mk (below_step HD0.out hS); clear hb hS) | (go_at_call 29; ((with_reducible refine (HC2.out _).mono ?_)); rintro e we2 ⟨rfl, hb⟩; have hS := hb; have HY2 := Aside0.mk (And.intro ((hS.block _ (blk_lt HY1.out.1)).trans HY1.out.1) (And.intro (pw_cell_below hS HY1.out.2.1) (pw_cell_below hS HY1.out.2.2))); have HV2 := Aside0.mk (sb_below HV1.out hS); have HD2 := Aside0.mk (below_step HD1.out hS); clear hb hS) | (go_at_call 28; ((with_reducible refine (sb_str w.heap.size w.heap.size _ (tu_row q1 q2 q3 q4) _ HV2.out HRM.out HD2.out.size).mono ?_)); rintro e we3 ⟨rfl, hb1, hb2, hb3⟩; have HY3 := Aside0.mk (And.intro (tu_kept hb3 HY2.out.1 HNE.out) (And.intro ((blk_cell (tu_kept hb3 HY2.out.1 HNE.out) 0).trans rfl) ((blk_cell (tu_kept hb3 HY2.out.1 HNE.out) 1).trans rfl))); have HU3 := Aside0.mk (show Lib.IsBuilderF 76 5 w.heap.size w.heap.size (Lib.byteCells (tu_bytes (L.take (i + 1)))) we3 from by rw [← HEL.out]; exact .inr hb1); have HD3 := Aside0.mk (HD2.out.trans hb2); clear hb1 hb2 hb3))
      go_wp2
      go_roundg (T.l.length - i)
      case measure => have := HI.out; omega
      case rel => exact ⟨i + 1, congrArg (Value.int .i64) (show wrap64 ((i : Int) + 1) = ((i + 1 : Nat) : Int) from by have := HI.out; have := HLL.out; unfold wrap64; omega), ⟨by have := HI.out; omega⟩, ⟨⟨HU3.out, HD3.out, by have h1 := HEN.out; have h2 := HRS.out; have h3 := HW.out.2.2; omega⟩⟩⟩
    · have hi1 : decide ((i : Int) < (T.l.length : Int)) = false := decide_eq_false (by omega)
      have hin : decide (i < T.l.length) = false := decide_eq_false hi
      have HI2 := Aside0.mk (show i = T.l.length by have := HI.out; omega)
      have c0 : wr.cell? ⟨g, 0, none⟩ = some (.complex .f64 ax ay) := pw_cell_below HW.out.2.1 ((blk_cell HK.out 0).trans rfl)
      have hpx := HX.out
      have hpy := HY.out
      have hps := tu_place_size t1 t2
      have z1 : (9223372036854775807 < 3 + (tu_place t1 t2).size) = False := eq_false (by have := hpx.2.2; have := hpy.2.2; omega)
      have z2 : (9223372036854775807 < 3 + (tu_place t1 t2).size + 1) = False := eq_false (by have := hpx.2.2; have := hpy.2.2; omega)
      have HLZ := Aside0.mk (show (tu_last t1 t2).size ≤ 500 from by
        have h1 := hpx.2.2; have h2 := hpy.2.2
        unfold tu_last; simp only [ByteArray.size_append]
        show 3 + (tu_place t1 t2).size + 1 ≤ 500
        omega)
      have HRM := Aside0.mk (show (Lib.byteCells (tu_bytes (L.take i))).length + (tu_last t1 t2).size ≤ 140737488355328 from by
        have h1 := HLZ.out; have h2 := HW.out.2.2; have h3 := HI.out; have h4 := HLL.out
        have h5 : (Lib.byteCells (tu_bytes (L.take i))).length = (tu_bytes (L.take i)).length := by simp [Lib.byteCells]
        omega)
      have HC1 := Aside0.mk (fun w' => tu_text_calls ax ay _ _ HF.out.1 HF.out.2.1 hpx.1 hpy.1 t1 t2 hpx.2.1 hpy.2.1 hpx.2.2 hpy.2.2 w')
      clear hpx hpy hps hi
      go_wp2_with (first | (go_at_call 29; ((with_reducible refine (HC1.out _).mono ?_)); rintro e we1 ⟨rfl, hb⟩; have HV1 := Aside0.mk (sb_below HW.out.1 hb); have HD1 := Aside0.mk (below_step HW.out.2.1 hb); clear hb) | (go_at_call 28; ((with_reducible refine (sb_str w.heap.size w.heap.size _ (tu_last t1 t2) _ HV1.out HRM.out HD1.out.size).mono ?_)); rintro e we2 ⟨rfl, hb1, hb2, hb3⟩; have HV2 := Aside0.mk (show Lib.IsBuilderF 76 5 w.heap.size w.heap.size (Lib.byteCells (tu_bytes (L.take i) ++ (tu_last t1 t2).data.toList)) we2 from by rw [Lib.byteCells_append, ← sb_cells]; exact .inr hb1); have HD2 := Aside0.mk (HD1.out.trans hb2); clear hb1 hb2 hb3) | (go_at_call 30; ((with_reducible refine (Go.Proofs.Ytbfepcajbbeheaa.C.sh_Builder_String_any_k w.heap.size w.heap.size _ _ HV2.out HD2.out.size).mono ?_)); rintro e we3 ⟨rfl, _, hb, _⟩; have HD3 := Aside0.mk (HD2.out.trans hb); clear hb))
      go_ret
      have hq : L.take i = L := by rw [HI2.out, List.take_of_length_le (by rw [HL.out]; exact Nat.le_refl _)]
      rw [hq]
      exact ⟨by first | rfl | (simp; done), HD3.out⟩

end Go.Proofs.Ytbfepcajbbeheaa.P

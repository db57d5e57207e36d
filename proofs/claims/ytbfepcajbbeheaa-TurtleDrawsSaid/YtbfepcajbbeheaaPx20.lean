-- Written by a program of this session (wip/tools/hp.py) out of the translation.
import Derived.Test.YtbfepcajbbeheaaPx0
import Derived.Test.YtbfepcajbbeheaaPx1
import Derived.Test.YtbfepcajbbeheaaPx2
import Derived.Test.YtbfepcajbbeheaaPx4
import Derived.Test.YtbfepcajbbeheaaPx6
import Derived.Test.YtbfepcajbbeheaaPx8
import Derived.Test.YtbfepcajbbeheaaPx12
import Derived.Test.YtbfepcajbbeheaaPx14
import Derived.Test.YtbfepcajbbeheaaPx16
import Derived.Test.YtbfepcajbbeheaaPx18
import Derived.Test.YtbfepcajbbeheaaPx19
namespace Go.Proofs.Ytbfepcajbbeheaa.P
open Go.RowKit Go.Proofs.YtbfepcajbbeheaaW.PrintWords Go.Proofs.YtbfepcajbbeheaaW.PrintLast Go.Proofs.YtbfepcajbbeheaaW.PrintMore
attribute [local go_sem] max2_int min2_int max_two min_two max_three min_three max_four min_four   -- for this text's walks alone
set_option linter.unusedVariables false
set_option linter.unusedSimpArgs false

/-! ### pascalinelaw32_TurtleDraws: function 4 -/
open Go.Proofs.Ytbfepcajbbeheaa.C
def tdr_num (n : Int) : Option ByteArray := (word_Text.f n).bind fun t => if t.size ≤ 100 ∧ -9223372036854775808 ≤ n ∧ n ≤ 9223372036854775807 then some t else none
def tdr_lines : List S70 → Option (List ByteArray)
  | [] => some []
  | x :: t => (tdr_num x.f0).bind fun t1 => (tdr_num x.f1).bind fun t2 => (tdr_num x.f2).bind fun t3 => (tdr_num x.f3).bind fun t4 => (tdr_lines t).bind fun L => some (tu_row t1 t2 t3 t4 :: L)
theorem tdr_num_ok {n : Int} {t : ByteArray} (h : tdr_num n = some t) : tu_num n t := by
  unfold tdr_num at h
  obtain ⟨t', h1, h⟩ := Option.bind_eq_some_iff.mp h
  split at h
  · rename_i h2
    injection h with h
    subst h
    exact ⟨h2.2, h1, h2.1⟩
  · cases h
theorem tdr_lines_ok : ∀ (l : List S70) (L : List ByteArray), tdr_lines l = some L → L.length = l.length ∧ ∀ (i : Nat) (h1 : i < l.length) (h2 : i < L.length), tu_line l[i] L[i]
  | [], L, h => by
    injection h with h
    subst h
    exact ⟨rfl, fun i h1 h2 => absurd h1 (Nat.not_lt_zero _)⟩
  | x :: t, L, h => by
    unfold tdr_lines at h
    obtain ⟨t1, h1, h⟩ := Option.bind_eq_some_iff.mp h
    obtain ⟨t2, h2, h⟩ := Option.bind_eq_some_iff.mp h
    obtain ⟨t3, h3, h⟩ := Option.bind_eq_some_iff.mp h
    obtain ⟨t4, h4, h⟩ := Option.bind_eq_some_iff.mp h
    obtain ⟨L2, h5, h⟩ := Option.bind_eq_some_iff.mp h
    injection h with h
    subst h
    obtain ⟨e1, e2⟩ := tdr_lines_ok t L2 h5
    refine ⟨by simp [e1], fun i k1 k2 => ?_⟩
    cases i with
    | zero => exact ⟨t1, t2, t3, t4, tdr_num_ok h1, tdr_num_ok h2, tdr_num_ok h3, tdr_num_ok h4, rfl⟩
    | succ i => exact e2 i (by simpa using k1) (by simpa using k2)
def pascalinelaw32_TurtleDraws.f (l0 : List S72) : Option Bool :=
  if 200 < l0.length then some true else
  if ∀ x ∈ l0, -2147483648 ≤ x.f1 ∧ x.f1 ≤ 2147483647 then
    (tdr_num (tu_drawn l0).1.x).bind fun t1 => (tdr_num (tu_drawn l0).1.y).bind fun t2 => (tdr_lines (tu_drawn l0).1.l).bind fun L =>
      if pascalineref32_Text.f 3000 (tu_drawn l0).1.x (tu_drawn l0).1.y (tu_drawn l0).1.dx (tu_drawn l0).1.dy (tu_drawn l0).1.st (tu_drawn l0).1.dn (tu_drawn l0).1.l = some ⟨(tu_bytes L ++ (tu_last t1 t2).data.toList).toArray⟩ then some true else none
  else none
theorem tdr_fact (l0 : List S72) (r : Bool) (h : pascalinelaw32_TurtleDraws.f l0 = some r) : r = true ∧ (200 < l0.length ∨ (l0.length ≤ 200 ∧ (∀ x ∈ l0, -2147483648 ≤ x.f1 ∧ x.f1 ≤ 2147483647) ∧ ∃ t1 t2 L, tu_num (tu_drawn l0).1.x t1 ∧ tu_num (tu_drawn l0).1.y t2 ∧ tdr_lines (tu_drawn l0).1.l = some L ∧
    pascalineref32_Text.f 3000 (tu_drawn l0).1.x (tu_drawn l0).1.y (tu_drawn l0).1.dx (tu_drawn l0).1.dy (tu_drawn l0).1.st (tu_drawn l0).1.dn (tu_drawn l0).1.l = some ⟨(tu_bytes L ++ (tu_last t1 t2).data.toList).toArray⟩)) := by
  unfold pascalinelaw32_TurtleDraws.f at h
  split at h
  · rename_i h1
    injection h with h
    exact ⟨h.symm, .inl h1⟩
  · rename_i h1
    split at h
    · rename_i h2
      obtain ⟨t1, e1, h⟩ := Option.bind_eq_some_iff.mp h
      obtain ⟨t2, e2, h⟩ := Option.bind_eq_some_iff.mp h
      obtain ⟨L, e3, h⟩ := Option.bind_eq_some_iff.mp h
      split at h
      · rename_i h3
        injection h with h
        exact ⟨h.symm, .inr ⟨by omega, h2, t1, t2, L, tdr_num_ok e1, tdr_num_ok e2, e3, h3⟩⟩
      · cases h
    · cases h
set_option maxRecDepth 100000 in
set_option maxHeartbeats 8000000 in
theorem pascalinelaw32_TurtleDraws.calls (A0 : Option Addr) (c0 : Nat) (l0 : List S72) (r : Bool) (w : World) (hr0 : Kd.C k72 w A0 l0.length l0) (hc0 : l0.length ≤ c0) (h : pascalinelaw32_TurtleDraws.f l0 = some r) :
    Calls Try.prog 4 #[.slice A0 l0.length c0] w fun e w' => e = .returned (.bool r) ∧ Below w.heap.size w w' := by
  obtain ⟨rfl, hF⟩ := tdr_fact l0 r h
  have HC := Aside0.mk hr0; have HCC := Aside0.mk hc0
  clear hr0 hc0 h
  rcases hF with hF | ⟨hl, hgood, t1, t2, L, hn1, hn2, hL, hrt⟩
  · have q1 : decide ((200 : Int) < (l0.length : Int)) = true := decide_eq_true (by omega)
    have q2 : decide (200 < l0.length) = true := decide_eq_true hF
    have q3 : ((200 : Int) < (l0.length : Int)) = True := eq_true (by omega)
    have q4 : (200 < l0.length) = True := eq_true hF
    clear hF
    go_enter Try.func4, Try.ntmps4
    go_wp2_with (go_at_call 8; (with_reducible refine (tu_awake_calls _).mono ?_); rintro e w1 ⟨rfl, hb⟩; have HB1 := Aside0.mk hb; clear hb)
    go_ret
    exact ⟨rfl, HB1.out⟩
  have q1 : decide ((200 : Int) < (l0.length : Int)) = false := decide_eq_false (by omega)
  have q2 : decide (200 < l0.length) = false := decide_eq_false (by omega)
  have q3 : ((200 : Int) < (l0.length : Int)) = False := eq_false (by omega)
  have q4 : (200 < l0.length) = False := eq_false (by omega)
  have hrd := tu_ref_draw l0 (by omega) hgood
  have hdk := tu_drawn_ok l0
  have hLs := tdr_lines_ok _ L hL
  obtain ⟨T, n, e0, hT⟩ : ∃ T n e0, tu_drawn l0 = (T, n, e0) := ⟨_, _, _, rfl⟩
  rw [hT] at hn1 hn2 hL hrt hrd hdk hLs
  dsimp only [tu_9] at hn1 hn2 hL hrt hrd hdk hLs
  have HN1 := Aside0.mk hn1; have HN2 := Aside0.mk hn2; have HLs := Aside0.mk hLs; have HRT := Aside0.mk hrt; have HRD := Aside0.mk hrd; have HT := Aside0.mk hT
  have HL := Aside0.mk (show l0.length ≤ 1000 by omega)
  have HOk := Aside0.mk (show TuOk T ∧ T.l.length ≤ 200 ∧ ∀ x ∈ T.l, tu_on x from ⟨hdk.1, by omega, hdk.2.2⟩)
  clear hn1 hn2 hL hrt hrd hdk hLs hT hl hgood
  go_enter Try.func4, Try.ntmps4
  go_wp2_with (first | (go_at_call 8; (with_reducible refine (tu_awake_calls _).mono ?_); rintro e w1 ⟨rfl, hb⟩; have HB1 := Aside0.mk hb; clear hb) | (go_at_call 14; (with_reducible refine (tu_Draw_calls A0 c0 l0 w1 (Kd.C_below HC.out HB1.out) HL.out).mono ?_); rintro e w3 ⟨g, b, rfl, hb, hI, hb2⟩; rw [HT.out] at hI ⊢; have HI := Aside0.mk hI; have HB3 := Aside0.mk (below_step HB1.out hb2); clear hI hb2 hb) | (go_at_call 15; (with_reducible refine (pascalineref32_Draw.calls 3000 A0 c0 l0 T.x T.y T.dx T.dy T.st T.dn T.l (n : Int) e0 w3 (Kd.C_below HC.out HB3.out) HCC.out HRD.out).mono ?_); rintro e w4 ⟨v6, rfl, hR, hb⟩; obtain ⟨A2, c2, e6, hcc, hC⟩ := Kd.R_reads hR; subst e6; have HC4 := Aside0.mk hC; have HCC5 := Aside0.mk hcc; have HI4 := Aside0.mk (td_below HI.out hb); have HB4 := Aside0.mk (below_step HB3.out hb); clear hR hb hC hcc))
  obtain ⟨W5, hW5⟩ : ∃ W5, w4.alloc (.cells #[.int .i64 T.x, .int .i64 T.y, .int .i64 T.dx, .int .i64 T.dy, .int .i64 T.st, .bool T.dn, .slice A2 T.l.length c2] 28) = W5 := ⟨_, rfl⟩
  have hbx := blk_new w4 (.cells #[.int .i64 T.x, .int .i64 T.y, .int .i64 T.dx, .int .i64 T.dy, .int .i64 T.st, .bool T.dn, .slice A2 T.l.length c2] 28)
  have hb5 : Below w4.heap.size w4 (w4.alloc (.cells #[.int .i64 T.x, .int .i64 T.y, .int .i64 T.dx, .int .i64 T.dy, .int .i64 T.st, .bool T.dn, .slice A2 T.l.length c2] 28)) := below_alloc (Below.refl _ _) _
  rw [hW5] at hbx hb5 ⊢
  have HI5 := Aside0.mk (td_below HI4.out hb5)
  have HC5 := Aside0.mk (Kd.C_below HC4.out hb5)
  have HB5 := Aside0.mk (below_step HB4.out hb5)
  have b0 : W5.cell? ⟨w4.heap.size, 0, none⟩ = some (.int .i64 T.x) := blk_cell hbx 0
  have b1 : W5.cell? ⟨w4.heap.size, 1, none⟩ = some (.int .i64 T.y) := blk_cell hbx 1
  have b2 : W5.cell? ⟨w4.heap.size, 2, none⟩ = some (.int .i64 T.dx) := blk_cell hbx 2
  have b3 : W5.cell? ⟨w4.heap.size, 3, none⟩ = some (.int .i64 T.dy) := blk_cell hbx 3
  have b4 : W5.cell? ⟨w4.heap.size, 4, none⟩ = some (.int .i64 T.st) := blk_cell hbx 4
  have b5 : W5.cell? ⟨w4.heap.size, 5, none⟩ = some (.bool T.dn) := blk_cell hbx 5
  have b6 : W5.cell? ⟨w4.heap.size, 6, none⟩ = some (.slice A2 T.l.length c2) := blk_cell hbx 6
  clear hW5 hbx hb5
  go_region_held3 (fun w' => w'.cell? ⟨w4.heap.size, 0, none⟩ = some (.int .i64 T.x) ∧ w'.cell? ⟨w4.heap.size, 1, none⟩ = some (.int .i64 T.y) ∧ w'.cell? ⟨w4.heap.size, 2, none⟩ = some (.int .i64 T.dx) ∧ w'.cell? ⟨w4.heap.size, 3, none⟩ = some (.int .i64 T.dy) ∧ w'.cell? ⟨w4.heap.size, 4, none⟩ = some (.int .i64 T.st) ∧ w'.cell? ⟨w4.heap.size, 5, none⟩ = some (.bool T.dn) ∧ w'.cell? ⟨w4.heap.size, 6, none⟩ = some (.slice A2 T.l.length c2)) (first | exact ⟨b0, b1, b2, b3, b4, b5, b6⟩ | exact si.out | exact st.out | exact sr.out | go_keep) (first | (go_at_call 13; (refine (tu_is_calls b g T A2 c2 _ (td_below HI5.out ?hb) HOk.out.1 (Nat.le_trans HOk.out.2.1 (by decide)) HOk.out.2.2 (Kd.C_below HC5.out ?hb)).mono ?_); (case hb => (first | exact below_drew (Below.refl _ _) | exact HBi.out | exact HBt.out | exact HBr.out)); rintro e w_i ⟨rfl, hbn⟩; have HBi : Aside0 (Below W5.heap.size W5 w_i) := ⟨by first | exact below_step (below_drew (Below.refl _ _)) hbn | exact below_step HBi.out hbn | exact below_step HBt.out hbn | exact below_step HBr.out hbn⟩; have si : Aside0 (w_i.cell? ⟨w4.heap.size, 0, none⟩ = some (.int .i64 T.x) ∧ w_i.cell? ⟨w4.heap.size, 1, none⟩ = some (.int .i64 T.y) ∧ w_i.cell? ⟨w4.heap.size, 2, none⟩ = some (.int .i64 T.dx) ∧ w_i.cell? ⟨w4.heap.size, 3, none⟩ = some (.int .i64 T.dy) ∧ w_i.cell? ⟨w4.heap.size, 4, none⟩ = some (.int .i64 T.st) ∧ w_i.cell? ⟨w4.heap.size, 5, none⟩ = some (.bool T.dn) ∧ w_i.cell? ⟨w4.heap.size, 6, none⟩ = some (.slice A2 T.l.length c2)) := Aside0.mk (by exact ⟨pw_cell_below HBi.out b0, pw_cell_below HBi.out b1, pw_cell_below HBi.out b2, pw_cell_below HBi.out b3, pw_cell_below HBi.out b4, pw_cell_below HBi.out b5, pw_cell_below HBi.out b6⟩); clear hbn) | (go_at_call 16; (refine (tu_Text_calls b g T L t1 t2 _ (td_below HI5.out ?hb) (Nat.le_of_lt (Nat.lt_of_le_of_lt (tu_le (td_below HI5.out ?hb)).2 (tu_le (td_below HI5.out ?hb)).1)) (Nat.le_trans HOk.out.2.1 (by decide)) HLs.out.1 HLs.out.2 HN1.out HN2.out).mono ?_); (case hb => (first | exact below_drew (Below.refl _ _) | exact HBi.out | exact HBt.out | exact HBr.out)); rintro e w_t ⟨rfl, hbn⟩; have HBt : Aside0 (Below W5.heap.size W5 w_t) := ⟨by first | exact below_step (below_drew (Below.refl _ _)) hbn | exact below_step HBi.out hbn | exact below_step HBt.out hbn | exact below_step HBr.out hbn⟩; have st : Aside0 (w_t.cell? ⟨w4.heap.size, 0, none⟩ = some (.int .i64 T.x) ∧ w_t.cell? ⟨w4.heap.size, 1, none⟩ = some (.int .i64 T.y) ∧ w_t.cell? ⟨w4.heap.size, 2, none⟩ = some (.int .i64 T.dx) ∧ w_t.cell? ⟨w4.heap.size, 3, none⟩ = some (.int .i64 T.dy) ∧ w_t.cell? ⟨w4.heap.size, 4, none⟩ = some (.int .i64 T.st) ∧ w_t.cell? ⟨w4.heap.size, 5, none⟩ = some (.bool T.dn) ∧ w_t.cell? ⟨w4.heap.size, 6, none⟩ = some (.slice A2 T.l.length c2)) := Aside0.mk (by exact ⟨pw_cell_below HBt.out b0, pw_cell_below HBt.out b1, pw_cell_below HBt.out b2, pw_cell_below HBt.out b3, pw_cell_below HBt.out b4, pw_cell_below HBt.out b5, pw_cell_below HBt.out b6⟩); clear hbn) | (go_at_call 17; (refine (pascalineref32_Text.calls 3000 T.x T.y T.dx T.dy T.st T.dn A2 c2 T.l _ _ (Kd.C_below HC5.out ?hb) HCC5.out HRT.out).mono ?_); (case hb => (first | exact below_drew (Below.refl _ _) | exact HBi.out | exact HBt.out | exact HBr.out)); rintro e w_r ⟨rfl, hbn⟩; have HBr : Aside0 (Below W5.heap.size W5 w_r) := ⟨by first | exact below_step (below_drew (Below.refl _ _)) hbn | exact below_step HBi.out hbn | exact below_step HBt.out hbn | exact below_step HBr.out hbn⟩; have sr : Aside0 (w_r.cell? ⟨w4.heap.size, 0, none⟩ = some (.int .i64 T.x) ∧ w_r.cell? ⟨w4.heap.size, 1, none⟩ = some (.int .i64 T.y) ∧ w_r.cell? ⟨w4.heap.size, 2, none⟩ = some (.int .i64 T.dx) ∧ w_r.cell? ⟨w4.heap.size, 3, none⟩ = some (.int .i64 T.dy) ∧ w_r.cell? ⟨w4.heap.size, 4, none⟩ = some (.int .i64 T.st) ∧ w_r.cell? ⟨w4.heap.size, 5, none⟩ = some (.bool T.dn) ∧ w_r.cell? ⟨w4.heap.size, 6, none⟩ = some (.slice A2 T.l.length c2)) := Aside0.mk (by exact ⟨pw_cell_below HBr.out b0, pw_cell_below HBr.out b1, pw_cell_below HBr.out b2, pw_cell_below HBr.out b3, pw_cell_below HBr.out b4, pw_cell_below HBr.out b5, pw_cell_below HBr.out b6⟩); clear hbn))
  all_goals go_wp2
  all_goals go_ret
  all_goals exact ⟨rfl, by first | exact HB5.out.trans (HBr.out.mono HB5.out.size) | exact HB5.out.trans (HBt.out.mono HB5.out.size)⟩

end Go.Proofs.Ytbfepcajbbeheaa.P

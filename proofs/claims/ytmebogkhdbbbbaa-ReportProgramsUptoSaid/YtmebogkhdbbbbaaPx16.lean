-- Written by a program of this session (wip/tools/hp.py) out of the translation.
import Derived.Test.YtmebogkhdbbbbaaPx0
import Derived.Test.YtmebogkhdbbbbaaPx2
import Derived.Test.YtmebogkhdbbbbaaPx12
namespace Go.Proofs.Ytmebogkhdbbbbaa.P
open Go.RowKit Go.Proofs.YtmebogkhdbbbbaaW.PrintWords Go.Proofs.YtmebogkhdbbbbaaW.PrintLast Go.Proofs.YtmebogkhdbbbbaaW.PrintMore
attribute [local go_sem] max2_int min2_int max_two min_two max_three min_three max_four min_four   -- for this text's walks alone
set_option linter.unusedVariables false
set_option linter.unusedSimpArgs false

/-! ### pascalineref31_Program: function 13 -/
/-- Texts of numbers, at both. -/
def RpT (T : Int → ByteArray) : Prop := ∀ n : Int, -9223372036854775808 ≤ n ∧ n ≤ 9223372036854775807 → word_Text.f n = some (T n) ∧ pascalineref01_Text.f n = some (T n) ∧ (T n).size ≤ 100
def rp_line (T : Int → ByteArray) (m : S49) (n : Int) : ByteArray := (⟨#[109, 111, 100, 117, 108, 101, 32]⟩ : ByteArray) ++ m.f0 ++ (⟨#[58, 32, 99, 111, 100, 101, 32]⟩ : ByteArray) ++ T m.f1 ++ (⟨#[32, 116, 111, 32]⟩ : ByteArray) ++ T (m.f1 + m.f2) ++ (⟨#[44, 32, 118, 97, 114, 105, 97, 98, 108, 101, 115, 32, 97, 116, 32]⟩ : ByteArray) ++ T m.f3 ++ (⟨#[44, 32, 101, 120, 99, 101, 112, 116, 105, 111, 110, 115, 32, 102, 114, 111, 109, 32]⟩ : ByteArray) ++ T m.f4 ++ (⟨#[44, 32, 116, 114, 105, 101, 115, 32]⟩ : ByteArray) ++ T n ++ (⟨#[10]⟩ : ByteArray)
def rp_sum (T : Int → ByteArray) (ms : List S49) (ts : List Int) : Nat → ByteArray
  | 0 => ⟨#[]⟩
  | k + 1 => rp_sum T ms ts k ++ rp_line T (rd_T49 ms (k : Int)) (ts.getD k 0)
def rp_last (T : Int → ByteArray) (a0 a1 a2 a3 a4 : Int) : ByteArray := (⟨#[99, 111, 100, 101, 32]⟩ : ByteArray) ++ T a0 ++ (⟨#[44, 32, 116, 97, 98, 108, 101, 115, 32]⟩ : ByteArray) ++ T (a1 - a0) ++ (⟨#[44, 32, 118, 97, 114, 105, 97, 98, 108, 101, 115, 32]⟩ : ByteArray) ++ T (a2 - a1) ++ (⟨#[44, 32, 104, 101, 97, 112, 32]⟩ : ByteArray) ++ T (a3 - a2) ++ (⟨#[44, 32, 115, 116, 97, 99, 107, 32]⟩ : ByteArray) ++ T (a4 - a3) ++ (⟨#[10]⟩ : ByteArray)
/-- A module is one whose texts are told. -/
def RpOk (m : S49) : Prop := m.f0.size ≤ 1048576 ∧ (-1099511627776 ≤ m.f1 ∧ m.f1 ≤ 1099511627776) ∧ (-1099511627776 ≤ m.f2 ∧ m.f2 ≤ 1099511627776) ∧ (-9223372036854775808 ≤ m.f3 ∧ m.f3 ≤ 9223372036854775807) ∧ (-9223372036854775808 ≤ m.f4 ∧ m.f4 ≤ 9223372036854775807)
theorem rp_line_sz (T : Int → ByteArray) (m : S49) (n : Int) : (rp_line T m n).size = 7 + m.f0.size + 7 + (T m.f1).size + 4 + (T (m.f1 + m.f2)).size + 15 + (T m.f3).size + 18 + (T m.f4).size + 8 + (T n).size + 1 := by
  unfold rp_line
  simp only [ByteArray.size_append]
  rfl
theorem rp_line_size {T : Int → ByteArray} (hT : RpT T) {m : S49} (hm : RpOk m) {n : Int} (hn : -9223372036854775808 ≤ n ∧ n ≤ 9223372036854775807) : (rp_line T m n).size ≤ 1050000 := by
  obtain ⟨h0, h1, h2, h3, h4⟩ := hm
  have s1 := (hT m.f1 (by omega)).2.2
  have s2 := (hT (m.f1 + m.f2) (by omega)).2.2
  have s3 := (hT m.f3 h3).2.2
  have s4 := (hT m.f4 h4).2.2
  have s5 := (hT n hn).2.2
  rw [rp_line_sz]
  omega
theorem rp_sum_size {T : Int → ByteArray} (hT : RpT T) {ms : List S49} {ts : List Int} (hms : ∀ m ∈ ms, RpOk m) (hts : ∀ n ∈ ts, -9223372036854775808 ≤ n ∧ n ≤ 9223372036854775807) : ∀ k : Nat, k ≤ ms.length → (rp_sum T ms ts k).size ≤ 1050000 * k
  | 0, _ => Nat.zero_le _
  | k + 1, hk => by
    have ih := rp_sum_size hT hms hts k (by omega)
    have hm : RpOk (rd_T49 ms (k : Int)) := by
      unfold rd_T49
      rw [Int.toNat_natCast, List.getD_eq_getElem?_getD, List.getElem?_eq_getElem (by omega)]
      exact hms _ (List.getElem_mem _)
    have hn : -9223372036854775808 ≤ ts.getD k 0 ∧ ts.getD k 0 ≤ 9223372036854775807 := by
      rw [List.getD_eq_getElem?_getD]
      cases e : ts[k]? with
      | none => simp
      | some n => exact hts n (List.mem_of_getElem? e)
    have := rp_line_size hT hm hn
    unfold rp_sum
    rw [ByteArray.size_append]
    omega
theorem rp_put5 {w : World} {g : Nat} {t : TypeId} {x0 x1 x2 x3 x4 : Value} (h : w.heap[g]? = some (.cells #[x0, x1, x2, x3, x4] t (0, 0))) (y0 y1 y2 y3 y4 : Value) :
    (((((w.setCell ⟨g, 0, none⟩ y0).setCell ⟨g, 1, none⟩ y1).setCell ⟨g, 2, none⟩ y2).setCell ⟨g, 3, none⟩ y3).setCell ⟨g, 4, none⟩ y4).heap[g]? = some (.cells #[y0, y1, y2, y3, y4] t (0, 0)) := by
  have h1 := blk_put (cs' := #[y0, x1, x2, x3, x4]) h 0 y0 rfl
  have h2 := blk_put (cs' := #[y0, y1, x2, x3, x4]) h1 1 y1 rfl
  have h3 := blk_put (cs' := #[y0, y1, y2, x3, x4]) h2 2 y2 rfl
  have h4 := blk_put (cs' := #[y0, y1, y2, y3, x4]) h3 3 y3 rfl
  exact blk_put (cs' := #[y0, y1, y2, y3, y4]) h4 4 y4 rfl
theorem rp_put5b {w0 w : World} {g : Nat} (hb : Below w0.heap.size w0 w) (hg : w0.heap.size ≤ g) (y0 y1 y2 y3 y4 : Value) :
    Below w0.heap.size w0 (((((w.setCell ⟨g, 0, none⟩ y0).setCell ⟨g, 1, none⟩ y1).setCell ⟨g, 2, none⟩ y2).setCell ⟨g, 3, none⟩ y3).setCell ⟨g, 4, none⟩ y4) :=
  below_set (below_set (below_set (below_set (below_set hb hg) hg) hg) hg) hg
set_option maxRecDepth 100000 in
set_option maxHeartbeats 8000000 in
theorem rp_ref_calls {T : Int → ByteArray} (hT : RpT T) (w : World) (a0 a1 a2 a3 a4 : Int) (ha : 0 ≤ a0 ∧ a0 ≤ a1 ∧ a1 ≤ a2 ∧ a2 ≤ a3 ∧ a3 ≤ a4 ∧ a4 ≤ 4294967295) (A5 : Option Addr) (n5 c5 : Nat) (A6 : Option Addr) (n6 c6 : Nat) (e7 e8 : Int) (AM : Option Addr) (cM : Nat) (ms : List S49) (hM : Kd.C k49 w AM ms.length ms) (hms : ∀ m ∈ ms, RpOk m) (hml : ms.length ≤ 80) (AT : Option Addr) (cT : Nat) (ts : List Int) (hTs : Kd.C (Kd.int .i64) w AT ts.length ts) (htl : ts.length ≤ 80) (hts : ∀ n ∈ ts, -9223372036854775808 ≤ n ∧ n ≤ 9223372036854775807) :
    Calls Try.prog 13 #[.agg #[.int .u32 a0, .int .u32 a1, .int .u32 a2, .int .u32 a3, .int .u32 a4, .slice A5 n5 c5, .slice A6 n6 c6, .int .u32 e7, .int .u32 e8, .slice AM ms.length cM], .slice AT ts.length cT] w fun e w' => e = .returned (.string (rp_sum T ms ts ms.length ++ rp_last T a0 a1 a2 a3 a4)) ∧ Below w.heap.size w w' := by
  have HM := Aside0.mk hM; have HMS := Aside0.mk hms; have HTT := Aside0.mk hTs; have HTS := Aside0.mk hts; have HAA := Aside0.mk ha
  have HSZ := Aside0.mk (fun k (h : k ≤ ms.length) => rp_sum_size hT hms hts k h)
  clear hM hms hTs hts ha
  go_enter Try.func13, Try.ntmps13
  go_wp2_with (((with_reducible refine gate_dst (N := 2) rfl ?_); refine box_event ?hg (N := 2) ?hd (cs := #[.int .u32 a0, .int .u32 a1, .int .u32 a2, .int .u32 a3, .int .u32 a4, .slice A5 n5 c5, .slice A6 n6 c6, .int .u32 e7, .int .u32 e8, .slice AM ms.length cM]) (t := 57) ?hr ?_; (case hd => rfl); (case hg => rfl); (case hr => first | (go_simp; done) | (go_simp; rfl)); intro b2 hgx w2 hbox hb; have HB2 := Aside0.mk hb; have HX2 := Aside0.mk hbox; have HG2 := Aside0.mk (show w.heap.size ≤ b2 from Nat.le_of_eq hgx.symm); clear hgx hbox hb))
  go_loopg [5, 6] (ms.length + 1) (fun kx v5 v6 wr => ∃ k : Nat, v5 = .string (rp_sum T ms ts k) ∧ v6 = .int .i64 k ∧ Aside0 (k + kx = ms.length + 1 ∧ k ≤ ms.length) ∧ Aside0 (Below w.heap.size w wr) ∧ Aside0 (wr.heap[b2]? = some (.cells #[.int .u32 a0, .int .u32 a1, .int .u32 a2, .int .u32 a3, .int .u32 a4, .slice A5 n5 c5, .slice A6 n6 c6, .int .u32 e7, .int .u32 e8, .slice AM ms.length cM] 57 (0, 0))))
  case atStart => exact ⟨0, rfl, rfl, ⟨⟨by omega, by omega⟩⟩, HB2, HX2⟩
  case round =>
    obtain ⟨k, rfl, rfl, HI, HB, HX2r⟩ := hrel
    have cM0 : wr.cell? ⟨b2, 9, none⟩ = some (.slice AM ms.length cM) := blk_cell HX2r.out 9
    by_cases hk : k < ms.length
    · obtain ⟨ad, e, cx0, cx1, cx2, cx3, cx4⟩ := at_T49 HM.out (k : Int) (by omega) (by omega)
      cases e
      have hok : RpOk (rd_T49 ms (k : Int)) := by
        unfold rd_T49
        rw [Int.toNat_natCast, List.getD_eq_getElem?_getD, List.getElem?_eq_getElem hk]
        exact HMS.out _ (List.getElem_mem _)
      rw [Int.toNat_natCast] at cx0 cx1 cx2 cx3 cx4
      have hnx : rp_sum T ms ts (k + 1) = rp_sum T ms ts k ++ rp_line T (rd_T49 ms (k : Int)) (ts.getD k 0) := rfl
      have hnr : -9223372036854775808 ≤ ts.getD k 0 ∧ ts.getD k 0 ≤ 9223372036854775807 := by
        rw [List.getD_eq_getElem?_getD]
        cases e : ts[k]? with
        | none => simp
        | some n => exact HTS.out n (List.mem_of_getElem? e)
      have hss : (rp_sum T ms ts k).size ≤ 84000000 := by have := HSZ.out k (by omega); omega
      obtain ⟨md, hmd⟩ : ∃ md, rd_T49 ms (k : Int) = md := ⟨_, rfl⟩
      obtain ⟨n, hn⟩ : ∃ n, ts.getD k 0 = n := ⟨_, rfl⟩
      obtain ⟨s, hs⟩ : ∃ s, rp_sum T ms ts k = s := ⟨_, rfl⟩
      rw [hmd] at cx0 cx1 cx2 cx3 cx4 hok hnx
      rw [hn] at hnx hnr
      rw [hs] at hnx hss ⊢
      clear hmd hs
      obtain ⟨m0, m1, m2, m3, m4⟩ := md
      unfold RpOk at hok
      dsimp only at cx0 cx1 cx2 cx3 cx4 hok
      obtain ⟨q0, ⟨q1, q1b⟩, ⟨q2, q2b⟩, ⟨q3, q3b⟩, q4, q4b⟩ := hok
      obtain ⟨qn, qnb⟩ := hnr
      replace cx0 := pw_cell_below HB.out cx0
      replace cx1 := pw_cell_below HB.out cx1
      replace cx2 := pw_cell_below HB.out cx2
      replace cx3 := pw_cell_below HB.out cx3
      replace cx4 := pw_cell_below HB.out cx4
      have HNX := Aside0.mk hnx; have HN := Aside0.mk hn; have HH := Aside0.mk hk
      have y1 := (hT m1 (by omega)).2.2
      have y2 := (hT (m1 + m2) (by omega)).2.2
      have y3 := (hT m3 (by omega)).2.2
      have y4 := (hT m4 (by omega)).2.2
      have y5 := (hT n (by omega)).2.2
      have z0 : (9223372036854775807 < s.size + 7) = False := eq_false (by omega)
      have z1 : (9223372036854775807 < s.size + 7 + m0.size) = False := eq_false (by omega)
      have z2 : (9223372036854775807 < s.size + 7 + m0.size + 7) = False := eq_false (by omega)
      have z3 : (9223372036854775807 < s.size + 7 + m0.size + 7 + (T m1).size) = False := eq_false (by omega)
      have z4 : (9223372036854775807 < s.size + 7 + m0.size + 7 + (T m1).size + 4) = False := eq_false (by omega)
      have z5 : (9223372036854775807 < s.size + 7 + m0.size + 7 + (T m1).size + 4 + (T (m1 + m2)).size) = False := eq_false (by omega)
      have z6 : (9223372036854775807 < s.size + 7 + m0.size + 7 + (T m1).size + 4 + (T (m1 + m2)).size + 15) = False := eq_false (by omega)
      have z7 : (9223372036854775807 < s.size + 7 + m0.size + 7 + (T m1).size + 4 + (T (m1 + m2)).size + 15 + (T m3).size) = False := eq_false (by omega)
      have z8 : (9223372036854775807 < s.size + 7 + m0.size + 7 + (T m1).size + 4 + (T (m1 + m2)).size + 15 + (T m3).size + 18) = False := eq_false (by omega)
      have z9 : (9223372036854775807 < s.size + 7 + m0.size + 7 + (T m1).size + 4 + (T (m1 + m2)).size + 15 + (T m3).size + 18 + (T m4).size) = False := eq_false (by omega)
      have z10 : (9223372036854775807 < s.size + 7 + m0.size + 7 + (T m1).size + 4 + (T (m1 + m2)).size + 15 + (T m3).size + 18 + (T m4).size + 8) = False := eq_false (by omega)
      have z11 : (9223372036854775807 < s.size + 7 + m0.size + 7 + (T m1).size + 4 + (T (m1 + m2)).size + 15 + (T m3).size + 18 + (T m4).size + 8 + (T n).size) = False := eq_false (by omega)
      have z12 : (9223372036854775807 < s.size + 7 + m0.size + 7 + (T m1).size + 4 + (T (m1 + m2)).size + 15 + (T m3).size + 18 + (T m4).size + 8 + (T n).size + 1) = False := eq_false (by omega)
      have r12 : IntKind.i64.wrap (m1 + m2) = m1 + m2 := by rw [IntKind.wrap_i64]; omega
      have k1 : (0 : Int) ≤ (k : Int) := by omega
      have k2 : (k : Int) < (ms.length : Int) := by omega
      have k2b : decide (k < ms.length) = true := decide_eq_true hk
      have k3 : (k : Int) ≤ 80 := by omega
      clear hnx hss hk y1 y2 y3 y4 y5
      by_cases hkt : k < ts.length
      · obtain ⟨at_, e, ct⟩ := Kd.at_int HTT.out (k : Int) (by omega) (by omega)
        cases e
        have HTC := Aside0.mk (show w.cell? (at_.add k) = some (.int .i64 n) by rw [← hn]; exact ct)
        have k4 : (k : Int) < (ts.length : Int) := by omega
        have k4b : decide (k < ts.length) = true := decide_eq_true hkt
        clear ct hn hkt
        go_wp2_with (first | ((with_reducible refine gate_dst (N := 7) rfl ?_); refine box_event ?hg (N := 7) ?hd (cs := #[.string ⟨#[]⟩, .int .i64 0, .int .i64 0, .int .i64 0, .int .i64 0]) (t := 87) ?hr ?_; (case hd => rfl); (case hg => rfl); (case hr => first | (go_simp; done) | (go_simp; rfl)); intro b7 hgx w7 hbox hb; have HB7 := Aside0.mk hb; have HX7 := Aside0.mk hbox; have HG7 := Aside0.mk (show wr.heap.size ≤ b7 from Nat.le_of_eq hgx.symm); have v0 : w7.cell? ⟨b7, 0, none⟩ = some (.string ⟨#[]⟩) := blk_cell hbox 0; have v1 : w7.cell? ⟨b7, 1, none⟩ = some (.int .i64 0) := blk_cell hbox 1; have v2 : w7.cell? ⟨b7, 2, none⟩ = some (.int .i64 0) := blk_cell hbox 2; have v3 : w7.cell? ⟨b7, 3, none⟩ = some (.int .i64 0) := blk_cell hbox 3; have v4 : w7.cell? ⟨b7, 4, none⟩ = some (.int .i64 0) := blk_cell hbox 4; have s0 := blk_frozen hbox 0; have s1 := blk_frozen hbox 1; have s2 := blk_frozen hbox 2; have s3 := blk_frozen hbox 3; have s4 := blk_frozen hbox 4; clear hgx hbox hb) | ((with_reducible refine gate_dst (N := 29) rfl ?_); obtain ⟨W9, hW9⟩ : ∃ W9 : World, (((((w7.setCell ⟨b7, 0, none⟩ (.string m0)).setCell ⟨b7, 1, none⟩ (.int .i64 m1)).setCell ⟨b7, 2, none⟩ (.int .i64 m2)).setCell ⟨b7, 3, none⟩ (.int .i64 m3)).setCell ⟨b7, 4, none⟩ (.int .i64 m4)) = W9 := ⟨_, rfl⟩; rw [hW9]; have hx := rp_put5 HX7.out (.string m0) (.int .i64 m1) (.int .i64 m2) (.int .i64 m3) (.int .i64 m4); rw [hW9] at hx; have HN7 := Aside0.mk hx; have hb := rp_put5b HB7.out HG7.out (.string m0) (.int .i64 m1) (.int .i64 m2) (.int .i64 m3) (.int .i64 m4); rw [hW9] at hb; have HB9 := Aside0.mk (below_step HB.out hb); have HN2 := Aside0.mk (blk_below HX2r.out hb); clear hx hb hW9 HX7 HB7 v0 v1 v2 v3 v4 s0 s1 s2 s3 s4 cM0 cx0 cx1 cx2 cx3 cx4; have ct := pw_cell_below HB9.out HTC.out))
        refine wp_region_held_drew (S := fun w' => w'.cell? ⟨b7, 0, none⟩ = some (.string m0) ∧ w'.cell? ⟨b7, 1, none⟩ = some (.int .i64 m1) ∧ w'.cell? ⟨b7, 2, none⟩ = some (.int .i64 m2) ∧ w'.cell? ⟨b7, 3, none⟩ = some (.int .i64 m3) ∧ w'.cell? ⟨b7, 4, none⟩ = some (.int .i64 m4)) (by kernel_rfl) (show W9.drew.cell? ⟨b7, 0, none⟩ = some (.string m0) ∧ W9.drew.cell? ⟨b7, 1, none⟩ = some (.int .i64 m1) ∧ W9.drew.cell? ⟨b7, 2, none⟩ = some (.int .i64 m2) ∧ W9.drew.cell? ⟨b7, 3, none⟩ = some (.int .i64 m3) ∧ W9.drew.cell? ⟨b7, 4, none⟩ = some (.int .i64 m4) from ⟨blk_cell (blk_drew HN7.out) 0, blk_cell (blk_drew HN7.out) 1, blk_cell (blk_drew HN7.out) 2, blk_cell (blk_drew HN7.out) 3, blk_cell (blk_drew HN7.out) 4⟩) (fun hHeld => ?_)
        refine C.tk_take (i := 0) (v := ?_) (by kernel_rfl) (by kernel_rfl) (by kernel_rfl) (fun oi hoi => ?_) rfl
        rotate_left
        simp only [List.getElem?_toArray, List.getElem?_cons_succ, List.getElem?_cons_zero] at hoi
        cases hoi
        refine ⟨fun _ _ _ h => h, Or.inl ⟨by rfl, ?_⟩, by assumption, ?_⟩
        · (intro w hSw; (try dsimp only at hSw); go_simp; all_goals with_reducible rfl)
        try simp only [Act.put, List.setIfInBounds_toArray, List.set_cons_zero, List.set_cons_succ]
        refine C.tk_take (i := 1) (v := ?_) (by kernel_rfl) (by kernel_rfl) (by kernel_rfl) (fun oi hoi => ?_) rfl
        rotate_left
        simp only [List.getElem?_toArray, List.getElem?_cons_succ, List.getElem?_cons_zero] at hoi
        cases hoi
        refine ⟨fun _ _ _ h => h, Or.inl ⟨by rfl, ?_⟩, by assumption, ?_⟩
        · (intro w hSw; (try dsimp only at hSw); go_simp; all_goals with_reducible rfl)
        try simp only [Act.put, List.setIfInBounds_toArray, List.set_cons_zero, List.set_cons_succ]
        refine C.tk_take (i := 2) (v := ?_) (by kernel_rfl) (by kernel_rfl) (by kernel_rfl) (fun oi hoi => ?_) rfl
        rotate_left
        simp only [List.getElem?_toArray, List.getElem?_cons_succ, List.getElem?_cons_zero] at hoi
        cases hoi
        refine ⟨fun _ _ _ h => h, Or.inl ⟨by rfl, ?_⟩, by assumption, ?_⟩
        · (intro w hSw; (try dsimp only at hSw); go_simp; all_goals with_reducible rfl)
        try simp only [Act.put, List.setIfInBounds_toArray, List.set_cons_zero, List.set_cons_succ]
        refine C.tk_take (i := 3) (v := ?_) (by kernel_rfl) (by kernel_rfl) (by kernel_rfl) (fun oi hoi => ?_) rfl
        rotate_left
        simp only [List.getElem?_toArray, List.getElem?_cons_succ, List.getElem?_cons_zero] at hoi
        cases hoi
        refine ⟨fun _ _ _ h => h, Or.inl ⟨by rfl, ?_⟩, by assumption, ?_⟩
        · (intro w hSw; (try dsimp only at hSw); go_simp; all_goals with_reducible rfl)
        try simp only [Act.put, List.setIfInBounds_toArray, List.set_cons_zero, List.set_cons_succ]
        refine C.tk_take (i := 4) (v := ?_) (by kernel_rfl) (by kernel_rfl) (by kernel_rfl) (fun oi hoi => ?_) rfl
        rotate_left
        simp only [List.getElem?_toArray, List.getElem?_cons_succ, List.getElem?_cons_zero] at hoi
        cases hoi
        refine ⟨fun _ _ _ h => h, Or.inl ⟨by rfl, ?_⟩, by assumption, ?_⟩
        · (intro w hSw; (try dsimp only at hSw); go_simp; all_goals with_reducible rfl)
        try simp only [Act.put, List.setIfInBounds_toArray, List.set_cons_zero, List.set_cons_succ]
        refine C.tk_take (i := 5) (v := ?_) (by kernel_rfl) (by kernel_rfl) (by kernel_rfl) (fun oi hoi => ?_) rfl
        rotate_left
        simp only [List.getElem?_toArray, List.getElem?_cons_succ, List.getElem?_cons_zero] at hoi
        cases hoi
        refine ⟨fun _ _ _ h => h, Or.inl ⟨by rfl, ?_⟩, by assumption, ?_⟩
        · (intro w hSw; (try dsimp only at hSw); go_simp; all_goals with_reducible rfl)
        try simp only [Act.put, List.setIfInBounds_toArray, List.set_cons_zero, List.set_cons_succ]
        refine C.tk_take (i := 6) (v := ?_) (by kernel_rfl) (by kernel_rfl) (by kernel_rfl) (fun oi hoi => ?_) rfl
        rotate_left
        simp only [List.getElem?_toArray, List.getElem?_cons_succ, List.getElem?_cons_zero] at hoi
        cases hoi
        refine ⟨fun _ _ _ h => h, Or.inl ⟨by rfl, ?_⟩, by assumption, ?_⟩
        · (intro w hSw; (try dsimp only at hSw); go_simp; all_goals with_reducible rfl)
        try simp only [Act.put, List.setIfInBounds_toArray, List.set_cons_zero, List.set_cons_succ]
        refine C.tk_take (i := 7) (v := ?_) (by kernel_rfl) (by kernel_rfl) (by kernel_rfl) (fun oi hoi => ?_) rfl
        rotate_left
        simp only [List.getElem?_toArray, List.getElem?_cons_succ, List.getElem?_cons_zero] at hoi
        cases hoi
        refine ⟨fun _ _ _ h => h, Or.inl ⟨by rfl, ?_⟩, by assumption, ?_⟩
        · (intro w hSw; (try dsimp only at hSw); go_simp; all_goals with_reducible rfl)
        try simp only [Act.put, List.setIfInBounds_toArray, List.set_cons_zero, List.set_cons_succ]
        refine C.tk_take (i := 11) (v := ?_) (by kernel_rfl) (by kernel_rfl) (by kernel_rfl) (fun oi hoi => ?_) rfl
        rotate_left
        simp only [List.getElem?_toArray, List.getElem?_cons_succ, List.getElem?_cons_zero] at hoi
        cases hoi
        refine ⟨fun _ _ _ h => h, Or.inl ⟨by rfl, ?_⟩, by assumption, ?_⟩
        · (intro w hSw; (try dsimp only at hSw); go_simp; all_goals with_reducible rfl)
        try simp only [Act.put, List.setIfInBounds_toArray, List.set_cons_zero, List.set_cons_succ]
        refine C.tk_take (i := 12) (v := ?_) (by kernel_rfl) (by kernel_rfl) (by kernel_rfl) (fun oi hoi => ?_) rfl
        rotate_left
        simp only [List.getElem?_toArray, List.getElem?_cons_succ, List.getElem?_cons_zero] at hoi
        cases hoi
        refine ⟨fun _ _ _ h => h, Or.inl ⟨by rfl, ?_⟩, by assumption, ?_⟩
        · (intro w hSw; (try dsimp only at hSw); go_simp; all_goals with_reducible rfl)
        try simp only [Act.put, List.setIfInBounds_toArray, List.set_cons_zero, List.set_cons_succ]
        refine C.tk_take (i := 13) (v := ?_) (by kernel_rfl) (by kernel_rfl) (by kernel_rfl) (fun oi hoi => ?_) rfl
        rotate_left
        simp only [List.getElem?_toArray, List.getElem?_cons_succ, List.getElem?_cons_zero] at hoi
        cases hoi
        refine ⟨fun _ _ _ h => h, Or.inl ⟨by rfl, ?_⟩, by assumption, ?_⟩
        · (intro w hSw; (try dsimp only at hSw); go_simp; all_goals with_reducible rfl)
        try simp only [Act.put, List.setIfInBounds_toArray, List.set_cons_zero, List.set_cons_succ]
        refine C.tk_take (i := 14) (v := ?_) (by kernel_rfl) (by kernel_rfl) (by kernel_rfl) (fun oi hoi => ?_) rfl
        rotate_left
        simp only [List.getElem?_toArray, List.getElem?_cons_succ, List.getElem?_cons_zero] at hoi
        cases hoi
        refine ⟨fun _ _ _ h => h, Or.inl ⟨by rfl, ?_⟩, by assumption, ?_⟩
        · (intro w hSw; (try dsimp only at hSw); go_simp; all_goals with_reducible rfl)
        try simp only [Act.put, List.setIfInBounds_toArray, List.set_cons_zero, List.set_cons_succ]
        refine C.tk_take (i := 15) (v := ?_) (by kernel_rfl) (by kernel_rfl) (by kernel_rfl) (fun oi hoi => ?_) rfl
        rotate_left
        simp only [List.getElem?_toArray, List.getElem?_cons_succ, List.getElem?_cons_zero] at hoi
        cases hoi
        refine ⟨fun _ _ _ h => h, Or.inl ⟨by rfl, ?_⟩, by assumption, ?_⟩
        · (intro w hSw; (try dsimp only at hSw); go_simp; all_goals with_reducible rfl)
        try simp only [Act.put, List.setIfInBounds_toArray, List.set_cons_zero, List.set_cons_succ]
        refine C.tk_take (i := 19) (v := ?_) (by kernel_rfl) (by kernel_rfl) (by kernel_rfl) (fun oi hoi => ?_) rfl
        rotate_left
        simp only [List.getElem?_toArray, List.getElem?_cons_succ, List.getElem?_cons_zero] at hoi
        cases hoi
        refine ⟨fun _ _ _ h => h, Or.inl ⟨by rfl, ?_⟩, by assumption, ?_⟩
        · (intro w hSw; (try dsimp only at hSw); go_simp; all_goals with_reducible rfl)
        try simp only [Act.put, List.setIfInBounds_toArray, List.set_cons_zero, List.set_cons_succ]
        refine C.tk_take (i := 20) (v := ?_) (by kernel_rfl) (by kernel_rfl) (by kernel_rfl) (fun oi hoi => ?_) rfl
        rotate_left
        simp only [List.getElem?_toArray, List.getElem?_cons_succ, List.getElem?_cons_zero] at hoi
        cases hoi
        refine ⟨fun _ _ _ h => h, Or.inl ⟨by rfl, ?_⟩, by assumption, ?_⟩
        · (intro w hSw; (try dsimp only at hSw); go_simp; all_goals with_reducible rfl)
        try simp only [Act.put, List.setIfInBounds_toArray, List.set_cons_zero, List.set_cons_succ]
        refine C.tk_take (i := 24) (v := ?_) (by kernel_rfl) (by kernel_rfl) (by kernel_rfl) (fun oi hoi => ?_) rfl
        rotate_left
        simp only [List.getElem?_toArray, List.getElem?_cons_succ, List.getElem?_cons_zero] at hoi
        cases hoi
        refine ⟨fun _ _ _ h => h, Or.inl ⟨by rfl, ?_⟩, by assumption, ?_⟩
        · (intro w hSw; (try dsimp only at hSw); go_simp; all_goals with_reducible rfl)
        try simp only [Act.put, List.setIfInBounds_toArray, List.set_cons_zero, List.set_cons_succ]
        refine C.tk_take (i := 25) (v := ?_) (by kernel_rfl) (by kernel_rfl) (by kernel_rfl) (fun oi hoi => ?_) rfl
        rotate_left
        simp only [List.getElem?_toArray, List.getElem?_cons_succ, List.getElem?_cons_zero] at hoi
        cases hoi
        refine ⟨fun _ _ _ h => h, Or.inl ⟨by rfl, ?_⟩, by assumption, ?_⟩
        · (intro w hSw; (try dsimp only at hSw); go_simp; all_goals with_reducible rfl)
        try simp only [Act.put, List.setIfInBounds_toArray, List.set_cons_zero, List.set_cons_succ]
        refine C.tk_take (i := 29) (v := ?_) (by kernel_rfl) (by kernel_rfl) (by kernel_rfl) (fun oi hoi => ?_) rfl
        rotate_left
        simp only [List.getElem?_toArray, List.getElem?_cons_succ, List.getElem?_cons_zero] at hoi
        cases hoi
        refine ⟨fun _ _ _ h => h, Or.inl ⟨by rfl, ?_⟩, by assumption, ?_⟩
        · (intro w hSw; (try dsimp only at hSw); go_simp; all_goals with_reducible rfl)
        try simp only [Act.put, List.setIfInBounds_toArray, List.set_cons_zero, List.set_cons_succ]
        refine wpAnyH_ready (rs := [8]) (by kernel_rfl) (by simp) ?_
        refine AllReadyH.cons rfl (fun K hK => ?_) AllReadyH.nil
        rw [if_pos (by rfl)]
        go_simp
        go_at_call 22
        refine (pascalineref01_Text.calls m1 (T m1) _ (hT m1 (by omega)).2.1).mono ?_
        rintro e u1 ⟨rfl, hb⟩
        have HY1 := Aside0.mk (blk_below (blk_drew HN7.out) hb)
        have HW1 := Aside0.mk (below_step (below_drew HB9.out) hb)
        have HQ1 := Aside0.mk (below_step (below_drew (Below.refl W9.heap.size W9)) hb)
        have hS1 : u1.cell? ⟨b7, 0, none⟩ = some (.string m0) ∧ u1.cell? ⟨b7, 1, none⟩ = some (.int .i64 m1) ∧ u1.cell? ⟨b7, 2, none⟩ = some (.int .i64 m2) ∧ u1.cell? ⟨b7, 3, none⟩ = some (.int .i64 m3) ∧ u1.cell? ⟨b7, 4, none⟩ = some (.int .i64 m4) := ⟨blk_cell HY1.out 0, blk_cell HY1.out 1, blk_cell HY1.out 2, blk_cell HY1.out 3, blk_cell HY1.out 4⟩
        clear hb
        go_wp2
        refine hK.out _ _ hS1 (fun hHeld => ?_)
        clear hK
        try simp only [Act.put, List.setIfInBounds_toArray, List.set_cons_zero, List.set_cons_succ]
        refine C.tk_take (i := 9) (v := ?_) (by kernel_rfl) (by kernel_rfl) (by kernel_rfl) (fun oi hoi => ?_) rfl
        rotate_left
        simp only [List.getElem?_toArray, List.getElem?_cons_succ, List.getElem?_cons_zero] at hoi
        cases hoi
        refine ⟨fun _ _ _ h => h, Or.inl ⟨by rfl, ?_⟩, by assumption, ?_⟩
        · (intro w hSw; (try dsimp only at hSw); go_simp; all_goals with_reducible rfl)
        try simp only [Act.put, List.setIfInBounds_toArray, List.set_cons_zero, List.set_cons_succ]
        refine C.tk_take (i := 10) (v := ?_) (by kernel_rfl) (by kernel_rfl) (by kernel_rfl) (fun oi hoi => ?_) rfl
        rotate_left
        simp only [List.getElem?_toArray, List.getElem?_cons_succ, List.getElem?_cons_zero] at hoi
        cases hoi
        refine ⟨fun _ _ _ h => h, Or.inl ⟨by rfl, ?_⟩, by assumption, ?_⟩
        · (intro w hSw; (try dsimp only at hSw); go_simp; all_goals with_reducible rfl)
        try simp only [Act.put, List.setIfInBounds_toArray, List.set_cons_zero, List.set_cons_succ]
        refine wpAnyH_ready (rs := [16]) (by kernel_rfl) (by simp) ?_
        refine AllReadyH.cons rfl (fun K hK => ?_) AllReadyH.nil
        rw [if_pos (by rfl)]
        go_simp
        go_at_call 22
        refine (pascalineref01_Text.calls (m1 + m2) (T (m1 + m2)) _ (hT (m1 + m2) (by omega)).2.1).mono ?_
        rintro e u2 ⟨rfl, hb⟩
        have HY2 := Aside0.mk (blk_below HY1.out hb)
        have HW2 := Aside0.mk (below_step HW1.out hb)
        have HQ2 := Aside0.mk (below_step HQ1.out hb)
        have hS2 : u2.cell? ⟨b7, 0, none⟩ = some (.string m0) ∧ u2.cell? ⟨b7, 1, none⟩ = some (.int .i64 m1) ∧ u2.cell? ⟨b7, 2, none⟩ = some (.int .i64 m2) ∧ u2.cell? ⟨b7, 3, none⟩ = some (.int .i64 m3) ∧ u2.cell? ⟨b7, 4, none⟩ = some (.int .i64 m4) := ⟨blk_cell HY2.out 0, blk_cell HY2.out 1, blk_cell HY2.out 2, blk_cell HY2.out 3, blk_cell HY2.out 4⟩
        clear hb
        go_wp2
        refine hK.out _ _ hS2 (fun hHeld => ?_)
        clear hK
        try simp only [Act.put, List.setIfInBounds_toArray, List.set_cons_zero, List.set_cons_succ]
        refine C.tk_take (i := 17) (v := ?_) (by kernel_rfl) (by kernel_rfl) (by kernel_rfl) (fun oi hoi => ?_) rfl
        rotate_left
        simp only [List.getElem?_toArray, List.getElem?_cons_succ, List.getElem?_cons_zero] at hoi
        cases hoi
        refine ⟨fun _ _ _ h => h, Or.inl ⟨by rfl, ?_⟩, by assumption, ?_⟩
        · (intro w hSw; (try dsimp only at hSw); go_simp; all_goals with_reducible rfl)
        try simp only [Act.put, List.setIfInBounds_toArray, List.set_cons_zero, List.set_cons_succ]
        refine C.tk_take (i := 18) (v := ?_) (by kernel_rfl) (by kernel_rfl) (by kernel_rfl) (fun oi hoi => ?_) rfl
        rotate_left
        simp only [List.getElem?_toArray, List.getElem?_cons_succ, List.getElem?_cons_zero] at hoi
        cases hoi
        refine ⟨fun _ _ _ h => h, Or.inl ⟨by rfl, ?_⟩, by assumption, ?_⟩
        · (intro w hSw; (try dsimp only at hSw); go_simp; all_goals with_reducible rfl)
        try simp only [Act.put, List.setIfInBounds_toArray, List.set_cons_zero, List.set_cons_succ]
        refine wpAnyH_ready (rs := [21]) (by kernel_rfl) (by simp) ?_
        refine AllReadyH.cons rfl (fun K hK => ?_) AllReadyH.nil
        rw [if_pos (by rfl)]
        go_simp
        go_at_call 22
        refine (pascalineref01_Text.calls m3 (T m3) _ (hT m3 (by omega)).2.1).mono ?_
        rintro e u3 ⟨rfl, hb⟩
        have HY3 := Aside0.mk (blk_below HY2.out hb)
        have HW3 := Aside0.mk (below_step HW2.out hb)
        have HQ3 := Aside0.mk (below_step HQ2.out hb)
        have hS3 : u3.cell? ⟨b7, 0, none⟩ = some (.string m0) ∧ u3.cell? ⟨b7, 1, none⟩ = some (.int .i64 m1) ∧ u3.cell? ⟨b7, 2, none⟩ = some (.int .i64 m2) ∧ u3.cell? ⟨b7, 3, none⟩ = some (.int .i64 m3) ∧ u3.cell? ⟨b7, 4, none⟩ = some (.int .i64 m4) := ⟨blk_cell HY3.out 0, blk_cell HY3.out 1, blk_cell HY3.out 2, blk_cell HY3.out 3, blk_cell HY3.out 4⟩
        clear hb
        go_wp2
        refine hK.out _ _ hS3 (fun hHeld => ?_)
        clear hK
        try simp only [Act.put, List.setIfInBounds_toArray, List.set_cons_zero, List.set_cons_succ]
        refine C.tk_take (i := 22) (v := ?_) (by kernel_rfl) (by kernel_rfl) (by kernel_rfl) (fun oi hoi => ?_) rfl
        rotate_left
        simp only [List.getElem?_toArray, List.getElem?_cons_succ, List.getElem?_cons_zero] at hoi
        cases hoi
        refine ⟨fun _ _ _ h => h, Or.inl ⟨by rfl, ?_⟩, by assumption, ?_⟩
        · (intro w hSw; (try dsimp only at hSw); go_simp; all_goals with_reducible rfl)
        try simp only [Act.put, List.setIfInBounds_toArray, List.set_cons_zero, List.set_cons_succ]
        refine C.tk_take (i := 23) (v := ?_) (by kernel_rfl) (by kernel_rfl) (by kernel_rfl) (fun oi hoi => ?_) rfl
        rotate_left
        simp only [List.getElem?_toArray, List.getElem?_cons_succ, List.getElem?_cons_zero] at hoi
        cases hoi
        refine ⟨fun _ _ _ h => h, Or.inl ⟨by rfl, ?_⟩, by assumption, ?_⟩
        · (intro w hSw; (try dsimp only at hSw); go_simp; all_goals with_reducible rfl)
        try simp only [Act.put, List.setIfInBounds_toArray, List.set_cons_zero, List.set_cons_succ]
        refine wpAnyH_ready (rs := [26]) (by kernel_rfl) (by simp) ?_
        refine AllReadyH.cons rfl (fun K hK => ?_) AllReadyH.nil
        rw [if_pos (by rfl)]
        go_simp
        go_at_call 22
        refine (pascalineref01_Text.calls m4 (T m4) _ (hT m4 (by omega)).2.1).mono ?_
        rintro e u4 ⟨rfl, hb⟩
        have HY4 := Aside0.mk (blk_below HY3.out hb)
        have HW4 := Aside0.mk (below_step HW3.out hb)
        have HQ4 := Aside0.mk (below_step HQ3.out hb)
        have hS4 : u4.cell? ⟨b7, 0, none⟩ = some (.string m0) ∧ u4.cell? ⟨b7, 1, none⟩ = some (.int .i64 m1) ∧ u4.cell? ⟨b7, 2, none⟩ = some (.int .i64 m2) ∧ u4.cell? ⟨b7, 3, none⟩ = some (.int .i64 m3) ∧ u4.cell? ⟨b7, 4, none⟩ = some (.int .i64 m4) := ⟨blk_cell HY4.out 0, blk_cell HY4.out 1, blk_cell HY4.out 2, blk_cell HY4.out 3, blk_cell HY4.out 4⟩
        clear hb
        go_wp2
        refine hK.out _ _ hS4 (fun hHeld => ?_)
        clear hK
        try simp only [Act.put, List.setIfInBounds_toArray, List.set_cons_zero, List.set_cons_succ]
        refine C.tk_take (i := 27) (v := ?_) (by kernel_rfl) (by kernel_rfl) (by kernel_rfl) (fun oi hoi => ?_) rfl
        rotate_left
        simp only [List.getElem?_toArray, List.getElem?_cons_succ, List.getElem?_cons_zero] at hoi
        cases hoi
        refine ⟨fun _ _ _ h => h, Or.inl ⟨by rfl, ?_⟩, by assumption, ?_⟩
        · (intro w hSw; (try dsimp only at hSw); go_simp; all_goals with_reducible rfl)
        try simp only [Act.put, List.setIfInBounds_toArray, List.set_cons_zero, List.set_cons_succ]
        refine C.tk_take (i := 28) (v := ?_) (by kernel_rfl) (by kernel_rfl) (by kernel_rfl) (fun oi hoi => ?_) rfl
        rotate_left
        simp only [List.getElem?_toArray, List.getElem?_cons_succ, List.getElem?_cons_zero] at hoi
        cases hoi
        refine ⟨fun _ _ _ h => h, Or.inl ⟨by rfl, ?_⟩, by assumption, ?_⟩
        · (intro w hSw; (try dsimp only at hSw); go_simp; all_goals with_reducible rfl)
        try simp only [Act.put, List.setIfInBounds_toArray, List.set_cons_zero, List.set_cons_succ]
        refine wpAnyH_ready (rs := [30]) (by kernel_rfl) (by simp) ?_
        refine AllReadyH.cons rfl (fun K hK => ?_) AllReadyH.nil
        rw [if_pos (by rfl)]
        go_simp
        go_at_call 22
        refine (pascalineref01_Text.calls n (T n) _ (hT n (by omega)).2.1).mono ?_
        rintro e u5 ⟨rfl, hb⟩
        have HY5 := Aside0.mk (blk_below HY4.out hb)
        have HW5 := Aside0.mk (below_step HW4.out hb)
        have HQ5 := Aside0.mk (below_step HQ4.out hb)
        have hS5 : u5.cell? ⟨b7, 0, none⟩ = some (.string m0) ∧ u5.cell? ⟨b7, 1, none⟩ = some (.int .i64 m1) ∧ u5.cell? ⟨b7, 2, none⟩ = some (.int .i64 m2) ∧ u5.cell? ⟨b7, 3, none⟩ = some (.int .i64 m3) ∧ u5.cell? ⟨b7, 4, none⟩ = some (.int .i64 m4) := ⟨blk_cell HY5.out 0, blk_cell HY5.out 1, blk_cell HY5.out 2, blk_cell HY5.out 3, blk_cell HY5.out 4⟩
        clear hb
        go_wp2
        refine hK.out _ _ hS5 (fun hHeld => ?_)
        clear hK
        try simp only [Act.put, List.setIfInBounds_toArray, List.set_cons_zero, List.set_cons_succ]
        refine C.tk_take (i := 31) (v := ?_) (by kernel_rfl) (by kernel_rfl) (by kernel_rfl) (fun oi hoi => ?_) rfl
        rotate_left
        simp only [List.getElem?_toArray, List.getElem?_cons_succ, List.getElem?_cons_zero] at hoi
        cases hoi
        refine ⟨fun _ _ _ h => h, Or.inl ⟨by rfl, ?_⟩, by assumption, ?_⟩
        · (intro w hSw; (try dsimp only at hSw); go_simp; all_goals with_reducible rfl)
        try simp only [Act.put, List.setIfInBounds_toArray, List.set_cons_zero, List.set_cons_succ]
        refine C.tk_take (i := 32) (v := ?_) (by kernel_rfl) (by kernel_rfl) (by kernel_rfl) (fun oi hoi => ?_) rfl
        rotate_left
        simp only [List.getElem?_toArray, List.getElem?_cons_succ, List.getElem?_cons_zero] at hoi
        cases hoi
        refine ⟨fun _ _ _ h => h, Or.inl ⟨by rfl, ?_⟩, by assumption, ?_⟩
        · (intro w hSw; (try dsimp only at hSw); go_simp; all_goals with_reducible rfl)
        try simp only [Act.put, List.setIfInBounds_toArray, List.set_cons_zero, List.set_cons_succ]
        refine C.tk_take (i := 33) (v := ?_) (by kernel_rfl) (by kernel_rfl) (by kernel_rfl) (fun oi hoi => ?_) rfl
        rotate_left
        simp only [List.getElem?_toArray, List.getElem?_cons_succ, List.getElem?_cons_zero] at hoi
        cases hoi
        refine ⟨fun _ _ _ h => h, Or.inl ⟨by rfl, ?_⟩, by assumption, ?_⟩
        · (intro w hSw; (try dsimp only at hSw); go_simp; all_goals with_reducible rfl)
        try simp only [Act.put, List.setIfInBounds_toArray, List.set_cons_zero, List.set_cons_succ]
        refine wpAnyH_done (by kernel_rfl) ?_ _
        go_wp2
        go_roundg (ms.length - k)
        case measure => have := HI.out; have := HH.out; omega
        case rel => exact ⟨k + 1, by rw [HNX.out]; unfold rp_line; simp only [ByteArray.append_assoc], (by first | rfl | (simp; done)), ⟨by have := HI.out; have := HH.out; omega⟩, ⟨HW5.out⟩, ⟨blk_below HN2.out HQ5.out⟩⟩
      · have hn0 : n = 0 := by rw [← hn, List.getD_eq_getElem?_getD, List.getElem?_eq_none (by omega)]; rfl
        subst hn0
        have k4 : ¬ (k : Int) < (ts.length : Int) := by omega
        have k4b : decide (k < ts.length) = false := decide_eq_false hkt
        clear hn hkt HN
        go_wp2_with ((with_reducible refine gate_dst (N := 7) rfl ?_); refine box_event ?hg (N := 7) ?hd (cs := #[.string ⟨#[]⟩, .int .i64 0, .int .i64 0, .int .i64 0, .int .i64 0]) (t := 87) ?hr ?_; (case hd => rfl); (case hg => rfl); (case hr => first | (go_simp; done) | (go_simp; rfl)); intro b7 hgx w7 hbox hb; have HB7 := Aside0.mk hb; have HX7 := Aside0.mk hbox; have HG7 := Aside0.mk (show wr.heap.size ≤ b7 from Nat.le_of_eq hgx.symm); have v0 : w7.cell? ⟨b7, 0, none⟩ = some (.string ⟨#[]⟩) := blk_cell hbox 0; have v1 : w7.cell? ⟨b7, 1, none⟩ = some (.int .i64 0) := blk_cell hbox 1; have v2 : w7.cell? ⟨b7, 2, none⟩ = some (.int .i64 0) := blk_cell hbox 2; have v3 : w7.cell? ⟨b7, 3, none⟩ = some (.int .i64 0) := blk_cell hbox 3; have v4 : w7.cell? ⟨b7, 4, none⟩ = some (.int .i64 0) := blk_cell hbox 4; have s0 := blk_frozen hbox 0; have s1 := blk_frozen hbox 1; have s2 := blk_frozen hbox 2; have s3 := blk_frozen hbox 3; have s4 := blk_frozen hbox 4; clear hgx hbox hb)
        obtain ⟨W9, hW9⟩ : ∃ W9 : World, (((((w7.setCell ⟨b7, 0, none⟩ (.string m0)).setCell ⟨b7, 1, none⟩ (.int .i64 m1)).setCell ⟨b7, 2, none⟩ (.int .i64 m2)).setCell ⟨b7, 3, none⟩ (.int .i64 m3)).setCell ⟨b7, 4, none⟩ (.int .i64 m4)) = W9 := ⟨_, rfl⟩
        rw [hW9]
        have hx := rp_put5 HX7.out (.string m0) (.int .i64 m1) (.int .i64 m2) (.int .i64 m3) (.int .i64 m4)
        rw [hW9] at hx
        have HN7 := Aside0.mk hx
        have hb := rp_put5b HB7.out HG7.out (.string m0) (.int .i64 m1) (.int .i64 m2) (.int .i64 m3) (.int .i64 m4)
        rw [hW9] at hb
        have HB9 := Aside0.mk (below_step HB.out hb)
        have HN2 := Aside0.mk (blk_below HX2r.out hb)
        clear hx hb hW9 HX7 HB7 v0 v1 v2 v3 v4 s0 s1 s2 s3 s4 cM0 cx0 cx1 cx2 cx3 cx4
        refine wp_region_held_drew (S := fun w' => w'.cell? ⟨b7, 0, none⟩ = some (.string m0) ∧ w'.cell? ⟨b7, 1, none⟩ = some (.int .i64 m1) ∧ w'.cell? ⟨b7, 2, none⟩ = some (.int .i64 m2) ∧ w'.cell? ⟨b7, 3, none⟩ = some (.int .i64 m3) ∧ w'.cell? ⟨b7, 4, none⟩ = some (.int .i64 m4)) (by kernel_rfl) (show W9.drew.cell? ⟨b7, 0, none⟩ = some (.string m0) ∧ W9.drew.cell? ⟨b7, 1, none⟩ = some (.int .i64 m1) ∧ W9.drew.cell? ⟨b7, 2, none⟩ = some (.int .i64 m2) ∧ W9.drew.cell? ⟨b7, 3, none⟩ = some (.int .i64 m3) ∧ W9.drew.cell? ⟨b7, 4, none⟩ = some (.int .i64 m4) from ⟨blk_cell (blk_drew HN7.out) 0, blk_cell (blk_drew HN7.out) 1, blk_cell (blk_drew HN7.out) 2, blk_cell (blk_drew HN7.out) 3, blk_cell (blk_drew HN7.out) 4⟩) (fun hHeld => ?_)
        refine C.tk_take (i := 0) (v := ?_) (by kernel_rfl) (by kernel_rfl) (by kernel_rfl) (fun oi hoi => ?_) rfl
        rotate_left
        simp only [List.getElem?_toArray, List.getElem?_cons_succ, List.getElem?_cons_zero] at hoi
        cases hoi
        refine ⟨fun _ _ _ h => h, Or.inl ⟨by rfl, ?_⟩, by assumption, ?_⟩
        · (intro w hSw; (try dsimp only at hSw); go_simp; all_goals with_reducible rfl)
        try simp only [Act.put, List.setIfInBounds_toArray, List.set_cons_zero, List.set_cons_succ]
        refine C.tk_take (i := 1) (v := ?_) (by kernel_rfl) (by kernel_rfl) (by kernel_rfl) (fun oi hoi => ?_) rfl
        rotate_left
        simp only [List.getElem?_toArray, List.getElem?_cons_succ, List.getElem?_cons_zero] at hoi
        cases hoi
        refine ⟨fun _ _ _ h => h, Or.inl ⟨by rfl, ?_⟩, by assumption, ?_⟩
        · (intro w hSw; (try dsimp only at hSw); go_simp; all_goals with_reducible rfl)
        try simp only [Act.put, List.setIfInBounds_toArray, List.set_cons_zero, List.set_cons_succ]
        refine C.tk_take (i := 2) (v := ?_) (by kernel_rfl) (by kernel_rfl) (by kernel_rfl) (fun oi hoi => ?_) rfl
        rotate_left
        simp only [List.getElem?_toArray, List.getElem?_cons_succ, List.getElem?_cons_zero] at hoi
        cases hoi
        refine ⟨fun _ _ _ h => h, Or.inl ⟨by rfl, ?_⟩, by assumption, ?_⟩
        · (intro w hSw; (try dsimp only at hSw); go_simp; all_goals with_reducible rfl)
        try simp only [Act.put, List.setIfInBounds_toArray, List.set_cons_zero, List.set_cons_succ]
        refine C.tk_take (i := 3) (v := ?_) (by kernel_rfl) (by kernel_rfl) (by kernel_rfl) (fun oi hoi => ?_) rfl
        rotate_left
        simp only [List.getElem?_toArray, List.getElem?_cons_succ, List.getElem?_cons_zero] at hoi
        cases hoi
        refine ⟨fun _ _ _ h => h, Or.inl ⟨by rfl, ?_⟩, by assumption, ?_⟩
        · (intro w hSw; (try dsimp only at hSw); go_simp; all_goals with_reducible rfl)
        try simp only [Act.put, List.setIfInBounds_toArray, List.set_cons_zero, List.set_cons_succ]
        refine C.tk_take (i := 4) (v := ?_) (by kernel_rfl) (by kernel_rfl) (by kernel_rfl) (fun oi hoi => ?_) rfl
        rotate_left
        simp only [List.getElem?_toArray, List.getElem?_cons_succ, List.getElem?_cons_zero] at hoi
        cases hoi
        refine ⟨fun _ _ _ h => h, Or.inl ⟨by rfl, ?_⟩, by assumption, ?_⟩
        · (intro w hSw; (try dsimp only at hSw); go_simp; all_goals with_reducible rfl)
        try simp only [Act.put, List.setIfInBounds_toArray, List.set_cons_zero, List.set_cons_succ]
        refine C.tk_take (i := 5) (v := ?_) (by kernel_rfl) (by kernel_rfl) (by kernel_rfl) (fun oi hoi => ?_) rfl
        rotate_left
        simp only [List.getElem?_toArray, List.getElem?_cons_succ, List.getElem?_cons_zero] at hoi
        cases hoi
        refine ⟨fun _ _ _ h => h, Or.inl ⟨by rfl, ?_⟩, by assumption, ?_⟩
        · (intro w hSw; (try dsimp only at hSw); go_simp; all_goals with_reducible rfl)
        try simp only [Act.put, List.setIfInBounds_toArray, List.set_cons_zero, List.set_cons_succ]
        refine C.tk_take (i := 6) (v := ?_) (by kernel_rfl) (by kernel_rfl) (by kernel_rfl) (fun oi hoi => ?_) rfl
        rotate_left
        simp only [List.getElem?_toArray, List.getElem?_cons_succ, List.getElem?_cons_zero] at hoi
        cases hoi
        refine ⟨fun _ _ _ h => h, Or.inl ⟨by rfl, ?_⟩, by assumption, ?_⟩
        · (intro w hSw; (try dsimp only at hSw); go_simp; all_goals with_reducible rfl)
        try simp only [Act.put, List.setIfInBounds_toArray, List.set_cons_zero, List.set_cons_succ]
        refine C.tk_take (i := 7) (v := ?_) (by kernel_rfl) (by kernel_rfl) (by kernel_rfl) (fun oi hoi => ?_) rfl
        rotate_left
        simp only [List.getElem?_toArray, List.getElem?_cons_succ, List.getElem?_cons_zero] at hoi
        cases hoi
        refine ⟨fun _ _ _ h => h, Or.inl ⟨by rfl, ?_⟩, by assumption, ?_⟩
        · (intro w hSw; (try dsimp only at hSw); go_simp; all_goals with_reducible rfl)
        try simp only [Act.put, List.setIfInBounds_toArray, List.set_cons_zero, List.set_cons_succ]
        refine C.tk_take (i := 11) (v := ?_) (by kernel_rfl) (by kernel_rfl) (by kernel_rfl) (fun oi hoi => ?_) rfl
        rotate_left
        simp only [List.getElem?_toArray, List.getElem?_cons_succ, List.getElem?_cons_zero] at hoi
        cases hoi
        refine ⟨fun _ _ _ h => h, Or.inl ⟨by rfl, ?_⟩, by assumption, ?_⟩
        · (intro w hSw; (try dsimp only at hSw); go_simp; all_goals with_reducible rfl)
        try simp only [Act.put, List.setIfInBounds_toArray, List.set_cons_zero, List.set_cons_succ]
        refine C.tk_take (i := 12) (v := ?_) (by kernel_rfl) (by kernel_rfl) (by kernel_rfl) (fun oi hoi => ?_) rfl
        rotate_left
        simp only [List.getElem?_toArray, List.getElem?_cons_succ, List.getElem?_cons_zero] at hoi
        cases hoi
        refine ⟨fun _ _ _ h => h, Or.inl ⟨by rfl, ?_⟩, by assumption, ?_⟩
        · (intro w hSw; (try dsimp only at hSw); go_simp; all_goals with_reducible rfl)
        try simp only [Act.put, List.setIfInBounds_toArray, List.set_cons_zero, List.set_cons_succ]
        refine C.tk_take (i := 13) (v := ?_) (by kernel_rfl) (by kernel_rfl) (by kernel_rfl) (fun oi hoi => ?_) rfl
        rotate_left
        simp only [List.getElem?_toArray, List.getElem?_cons_succ, List.getElem?_cons_zero] at hoi
        cases hoi
        refine ⟨fun _ _ _ h => h, Or.inl ⟨by rfl, ?_⟩, by assumption, ?_⟩
        · (intro w hSw; (try dsimp only at hSw); go_simp; all_goals with_reducible rfl)
        try simp only [Act.put, List.setIfInBounds_toArray, List.set_cons_zero, List.set_cons_succ]
        refine C.tk_take (i := 14) (v := ?_) (by kernel_rfl) (by kernel_rfl) (by kernel_rfl) (fun oi hoi => ?_) rfl
        rotate_left
        simp only [List.getElem?_toArray, List.getElem?_cons_succ, List.getElem?_cons_zero] at hoi
        cases hoi
        refine ⟨fun _ _ _ h => h, Or.inl ⟨by rfl, ?_⟩, by assumption, ?_⟩
        · (intro w hSw; (try dsimp only at hSw); go_simp; all_goals with_reducible rfl)
        try simp only [Act.put, List.setIfInBounds_toArray, List.set_cons_zero, List.set_cons_succ]
        refine C.tk_take (i := 15) (v := ?_) (by kernel_rfl) (by kernel_rfl) (by kernel_rfl) (fun oi hoi => ?_) rfl
        rotate_left
        simp only [List.getElem?_toArray, List.getElem?_cons_succ, List.getElem?_cons_zero] at hoi
        cases hoi
        refine ⟨fun _ _ _ h => h, Or.inl ⟨by rfl, ?_⟩, by assumption, ?_⟩
        · (intro w hSw; (try dsimp only at hSw); go_simp; all_goals with_reducible rfl)
        try simp only [Act.put, List.setIfInBounds_toArray, List.set_cons_zero, List.set_cons_succ]
        refine C.tk_take (i := 19) (v := ?_) (by kernel_rfl) (by kernel_rfl) (by kernel_rfl) (fun oi hoi => ?_) rfl
        rotate_left
        simp only [List.getElem?_toArray, List.getElem?_cons_succ, List.getElem?_cons_zero] at hoi
        cases hoi
        refine ⟨fun _ _ _ h => h, Or.inl ⟨by rfl, ?_⟩, by assumption, ?_⟩
        · (intro w hSw; (try dsimp only at hSw); go_simp; all_goals with_reducible rfl)
        try simp only [Act.put, List.setIfInBounds_toArray, List.set_cons_zero, List.set_cons_succ]
        refine C.tk_take (i := 20) (v := ?_) (by kernel_rfl) (by kernel_rfl) (by kernel_rfl) (fun oi hoi => ?_) rfl
        rotate_left
        simp only [List.getElem?_toArray, List.getElem?_cons_succ, List.getElem?_cons_zero] at hoi
        cases hoi
        refine ⟨fun _ _ _ h => h, Or.inl ⟨by rfl, ?_⟩, by assumption, ?_⟩
        · (intro w hSw; (try dsimp only at hSw); go_simp; all_goals with_reducible rfl)
        try simp only [Act.put, List.setIfInBounds_toArray, List.set_cons_zero, List.set_cons_succ]
        refine C.tk_take (i := 24) (v := ?_) (by kernel_rfl) (by kernel_rfl) (by kernel_rfl) (fun oi hoi => ?_) rfl
        rotate_left
        simp only [List.getElem?_toArray, List.getElem?_cons_succ, List.getElem?_cons_zero] at hoi
        cases hoi
        refine ⟨fun _ _ _ h => h, Or.inl ⟨by rfl, ?_⟩, by assumption, ?_⟩
        · (intro w hSw; (try dsimp only at hSw); go_simp; all_goals with_reducible rfl)
        try simp only [Act.put, List.setIfInBounds_toArray, List.set_cons_zero, List.set_cons_succ]
        refine C.tk_take (i := 25) (v := ?_) (by kernel_rfl) (by kernel_rfl) (by kernel_rfl) (fun oi hoi => ?_) rfl
        rotate_left
        simp only [List.getElem?_toArray, List.getElem?_cons_succ, List.getElem?_cons_zero] at hoi
        cases hoi
        refine ⟨fun _ _ _ h => h, Or.inl ⟨by rfl, ?_⟩, by assumption, ?_⟩
        · (intro w hSw; (try dsimp only at hSw); go_simp; all_goals with_reducible rfl)
        try simp only [Act.put, List.setIfInBounds_toArray, List.set_cons_zero, List.set_cons_succ]
        refine C.tk_take (i := 29) (v := ?_) (by kernel_rfl) (by kernel_rfl) (by kernel_rfl) (fun oi hoi => ?_) rfl
        rotate_left
        simp only [List.getElem?_toArray, List.getElem?_cons_succ, List.getElem?_cons_zero] at hoi
        cases hoi
        refine ⟨fun _ _ _ h => h, Or.inl ⟨by rfl, ?_⟩, by assumption, ?_⟩
        · (intro w hSw; (try dsimp only at hSw); go_simp; all_goals with_reducible rfl)
        try simp only [Act.put, List.setIfInBounds_toArray, List.set_cons_zero, List.set_cons_succ]
        refine wpAnyH_ready (rs := [8]) (by kernel_rfl) (by simp) ?_
        refine AllReadyH.cons rfl (fun K hK => ?_) AllReadyH.nil
        rw [if_pos (by rfl)]
        go_simp
        go_at_call 22
        refine (pascalineref01_Text.calls m1 (T m1) _ (hT m1 (by omega)).2.1).mono ?_
        rintro e u1 ⟨rfl, hb⟩
        have HY1 := Aside0.mk (blk_below (blk_drew HN7.out) hb)
        have HW1 := Aside0.mk (below_step (below_drew HB9.out) hb)
        have HQ1 := Aside0.mk (below_step (below_drew (Below.refl W9.heap.size W9)) hb)
        have hS1 : u1.cell? ⟨b7, 0, none⟩ = some (.string m0) ∧ u1.cell? ⟨b7, 1, none⟩ = some (.int .i64 m1) ∧ u1.cell? ⟨b7, 2, none⟩ = some (.int .i64 m2) ∧ u1.cell? ⟨b7, 3, none⟩ = some (.int .i64 m3) ∧ u1.cell? ⟨b7, 4, none⟩ = some (.int .i64 m4) := ⟨blk_cell HY1.out 0, blk_cell HY1.out 1, blk_cell HY1.out 2, blk_cell HY1.out 3, blk_cell HY1.out 4⟩
        clear hb
        go_wp2
        refine hK.out _ _ hS1 (fun hHeld => ?_)
        clear hK
        try simp only [Act.put, List.setIfInBounds_toArray, List.set_cons_zero, List.set_cons_succ]
        refine C.tk_take (i := 9) (v := ?_) (by kernel_rfl) (by kernel_rfl) (by kernel_rfl) (fun oi hoi => ?_) rfl
        rotate_left
        simp only [List.getElem?_toArray, List.getElem?_cons_succ, List.getElem?_cons_zero] at hoi
        cases hoi
        refine ⟨fun _ _ _ h => h, Or.inl ⟨by rfl, ?_⟩, by assumption, ?_⟩
        · (intro w hSw; (try dsimp only at hSw); go_simp; all_goals with_reducible rfl)
        try simp only [Act.put, List.setIfInBounds_toArray, List.set_cons_zero, List.set_cons_succ]
        refine C.tk_take (i := 10) (v := ?_) (by kernel_rfl) (by kernel_rfl) (by kernel_rfl) (fun oi hoi => ?_) rfl
        rotate_left
        simp only [List.getElem?_toArray, List.getElem?_cons_succ, List.getElem?_cons_zero] at hoi
        cases hoi
        refine ⟨fun _ _ _ h => h, Or.inl ⟨by rfl, ?_⟩, by assumption, ?_⟩
        · (intro w hSw; (try dsimp only at hSw); go_simp; all_goals with_reducible rfl)
        try simp only [Act.put, List.setIfInBounds_toArray, List.set_cons_zero, List.set_cons_succ]
        refine wpAnyH_ready (rs := [16]) (by kernel_rfl) (by simp) ?_
        refine AllReadyH.cons rfl (fun K hK => ?_) AllReadyH.nil
        rw [if_pos (by rfl)]
        go_simp
        go_at_call 22
        refine (pascalineref01_Text.calls (m1 + m2) (T (m1 + m2)) _ (hT (m1 + m2) (by omega)).2.1).mono ?_
        rintro e u2 ⟨rfl, hb⟩
        have HY2 := Aside0.mk (blk_below HY1.out hb)
        have HW2 := Aside0.mk (below_step HW1.out hb)
        have HQ2 := Aside0.mk (below_step HQ1.out hb)
        have hS2 : u2.cell? ⟨b7, 0, none⟩ = some (.string m0) ∧ u2.cell? ⟨b7, 1, none⟩ = some (.int .i64 m1) ∧ u2.cell? ⟨b7, 2, none⟩ = some (.int .i64 m2) ∧ u2.cell? ⟨b7, 3, none⟩ = some (.int .i64 m3) ∧ u2.cell? ⟨b7, 4, none⟩ = some (.int .i64 m4) := ⟨blk_cell HY2.out 0, blk_cell HY2.out 1, blk_cell HY2.out 2, blk_cell HY2.out 3, blk_cell HY2.out 4⟩
        clear hb
        go_wp2
        refine hK.out _ _ hS2 (fun hHeld => ?_)
        clear hK
        try simp only [Act.put, List.setIfInBounds_toArray, List.set_cons_zero, List.set_cons_succ]
        refine C.tk_take (i := 17) (v := ?_) (by kernel_rfl) (by kernel_rfl) (by kernel_rfl) (fun oi hoi => ?_) rfl
        rotate_left
        simp only [List.getElem?_toArray, List.getElem?_cons_succ, List.getElem?_cons_zero] at hoi
        cases hoi
        refine ⟨fun _ _ _ h => h, Or.inl ⟨by rfl, ?_⟩, by assumption, ?_⟩
        · (intro w hSw; (try dsimp only at hSw); go_simp; all_goals with_reducible rfl)
        try simp only [Act.put, List.setIfInBounds_toArray, List.set_cons_zero, List.set_cons_succ]
        refine C.tk_take (i := 18) (v := ?_) (by kernel_rfl) (by kernel_rfl) (by kernel_rfl) (fun oi hoi => ?_) rfl
        rotate_left
        simp only [List.getElem?_toArray, List.getElem?_cons_succ, List.getElem?_cons_zero] at hoi
        cases hoi
        refine ⟨fun _ _ _ h => h, Or.inl ⟨by rfl, ?_⟩, by assumption, ?_⟩
        · (intro w hSw; (try dsimp only at hSw); go_simp; all_goals with_reducible rfl)
        try simp only [Act.put, List.setIfInBounds_toArray, List.set_cons_zero, List.set_cons_succ]
        refine wpAnyH_ready (rs := [21]) (by kernel_rfl) (by simp) ?_
        refine AllReadyH.cons rfl (fun K hK => ?_) AllReadyH.nil
        rw [if_pos (by rfl)]
        go_simp
        go_at_call 22
        refine (pascalineref01_Text.calls m3 (T m3) _ (hT m3 (by omega)).2.1).mono ?_
        rintro e u3 ⟨rfl, hb⟩
        have HY3 := Aside0.mk (blk_below HY2.out hb)
        have HW3 := Aside0.mk (below_step HW2.out hb)
        have HQ3 := Aside0.mk (below_step HQ2.out hb)
        have hS3 : u3.cell? ⟨b7, 0, none⟩ = some (.string m0) ∧ u3.cell? ⟨b7, 1, none⟩ = some (.int .i64 m1) ∧ u3.cell? ⟨b7, 2, none⟩ = some (.int .i64 m2) ∧ u3.cell? ⟨b7, 3, none⟩ = some (.int .i64 m3) ∧ u3.cell? ⟨b7, 4, none⟩ = some (.int .i64 m4) := ⟨blk_cell HY3.out 0, blk_cell HY3.out 1, blk_cell HY3.out 2, blk_cell HY3.out 3, blk_cell HY3.out 4⟩
        clear hb
        go_wp2
        refine hK.out _ _ hS3 (fun hHeld => ?_)
        clear hK
        try simp only [Act.put, List.setIfInBounds_toArray, List.set_cons_zero, List.set_cons_succ]
        refine C.tk_take (i := 22) (v := ?_) (by kernel_rfl) (by kernel_rfl) (by kernel_rfl) (fun oi hoi => ?_) rfl
        rotate_left
        simp only [List.getElem?_toArray, List.getElem?_cons_succ, List.getElem?_cons_zero] at hoi
        cases hoi
        refine ⟨fun _ _ _ h => h, Or.inl ⟨by rfl, ?_⟩, by assumption, ?_⟩
        · (intro w hSw; (try dsimp only at hSw); go_simp; all_goals with_reducible rfl)
        try simp only [Act.put, List.setIfInBounds_toArray, List.set_cons_zero, List.set_cons_succ]
        refine C.tk_take (i := 23) (v := ?_) (by kernel_rfl) (by kernel_rfl) (by kernel_rfl) (fun oi hoi => ?_) rfl
        rotate_left
        simp only [List.getElem?_toArray, List.getElem?_cons_succ, List.getElem?_cons_zero] at hoi
        cases hoi
        refine ⟨fun _ _ _ h => h, Or.inl ⟨by rfl, ?_⟩, by assumption, ?_⟩
        · (intro w hSw; (try dsimp only at hSw); go_simp; all_goals with_reducible rfl)
        try simp only [Act.put, List.setIfInBounds_toArray, List.set_cons_zero, List.set_cons_succ]
        refine wpAnyH_ready (rs := [26]) (by kernel_rfl) (by simp) ?_
        refine AllReadyH.cons rfl (fun K hK => ?_) AllReadyH.nil
        rw [if_pos (by rfl)]
        go_simp
        go_at_call 22
        refine (pascalineref01_Text.calls m4 (T m4) _ (hT m4 (by omega)).2.1).mono ?_
        rintro e u4 ⟨rfl, hb⟩
        have HY4 := Aside0.mk (blk_below HY3.out hb)
        have HW4 := Aside0.mk (below_step HW3.out hb)
        have HQ4 := Aside0.mk (below_step HQ3.out hb)
        have hS4 : u4.cell? ⟨b7, 0, none⟩ = some (.string m0) ∧ u4.cell? ⟨b7, 1, none⟩ = some (.int .i64 m1) ∧ u4.cell? ⟨b7, 2, none⟩ = some (.int .i64 m2) ∧ u4.cell? ⟨b7, 3, none⟩ = some (.int .i64 m3) ∧ u4.cell? ⟨b7, 4, none⟩ = some (.int .i64 m4) := ⟨blk_cell HY4.out 0, blk_cell HY4.out 1, blk_cell HY4.out 2, blk_cell HY4.out 3, blk_cell HY4.out 4⟩
        clear hb
        go_wp2
        refine hK.out _ _ hS4 (fun hHeld => ?_)
        clear hK
        try simp only [Act.put, List.setIfInBounds_toArray, List.set_cons_zero, List.set_cons_succ]
        refine C.tk_take (i := 27) (v := ?_) (by kernel_rfl) (by kernel_rfl) (by kernel_rfl) (fun oi hoi => ?_) rfl
        rotate_left
        simp only [List.getElem?_toArray, List.getElem?_cons_succ, List.getElem?_cons_zero] at hoi
        cases hoi
        refine ⟨fun _ _ _ h => h, Or.inl ⟨by rfl, ?_⟩, by assumption, ?_⟩
        · (intro w hSw; (try dsimp only at hSw); go_simp; all_goals with_reducible rfl)
        try simp only [Act.put, List.setIfInBounds_toArray, List.set_cons_zero, List.set_cons_succ]
        refine C.tk_take (i := 28) (v := ?_) (by kernel_rfl) (by kernel_rfl) (by kernel_rfl) (fun oi hoi => ?_) rfl
        rotate_left
        simp only [List.getElem?_toArray, List.getElem?_cons_succ, List.getElem?_cons_zero] at hoi
        cases hoi
        refine ⟨fun _ _ _ h => h, Or.inl ⟨by rfl, ?_⟩, by assumption, ?_⟩
        · (intro w hSw; (try dsimp only at hSw); go_simp; all_goals with_reducible rfl)
        try simp only [Act.put, List.setIfInBounds_toArray, List.set_cons_zero, List.set_cons_succ]
        refine wpAnyH_ready (rs := [30]) (by kernel_rfl) (by simp) ?_
        refine AllReadyH.cons rfl (fun K hK => ?_) AllReadyH.nil
        rw [if_pos (by rfl)]
        go_simp
        go_at_call 22
        refine (pascalineref01_Text.calls (0 : Int) (T (0 : Int)) _ (hT (0 : Int) (by omega)).2.1).mono ?_
        rintro e u5 ⟨rfl, hb⟩
        have HY5 := Aside0.mk (blk_below HY4.out hb)
        have HW5 := Aside0.mk (below_step HW4.out hb)
        have HQ5 := Aside0.mk (below_step HQ4.out hb)
        have hS5 : u5.cell? ⟨b7, 0, none⟩ = some (.string m0) ∧ u5.cell? ⟨b7, 1, none⟩ = some (.int .i64 m1) ∧ u5.cell? ⟨b7, 2, none⟩ = some (.int .i64 m2) ∧ u5.cell? ⟨b7, 3, none⟩ = some (.int .i64 m3) ∧ u5.cell? ⟨b7, 4, none⟩ = some (.int .i64 m4) := ⟨blk_cell HY5.out 0, blk_cell HY5.out 1, blk_cell HY5.out 2, blk_cell HY5.out 3, blk_cell HY5.out 4⟩
        clear hb
        go_wp2
        refine hK.out _ _ hS5 (fun hHeld => ?_)
        clear hK
        try simp only [Act.put, List.setIfInBounds_toArray, List.set_cons_zero, List.set_cons_succ]
        refine C.tk_take (i := 31) (v := ?_) (by kernel_rfl) (by kernel_rfl) (by kernel_rfl) (fun oi hoi => ?_) rfl
        rotate_left
        simp only [List.getElem?_toArray, List.getElem?_cons_succ, List.getElem?_cons_zero] at hoi
        cases hoi
        refine ⟨fun _ _ _ h => h, Or.inl ⟨by rfl, ?_⟩, by assumption, ?_⟩
        · (intro w hSw; (try dsimp only at hSw); go_simp; all_goals with_reducible rfl)
        try simp only [Act.put, List.setIfInBounds_toArray, List.set_cons_zero, List.set_cons_succ]
        refine C.tk_take (i := 32) (v := ?_) (by kernel_rfl) (by kernel_rfl) (by kernel_rfl) (fun oi hoi => ?_) rfl
        rotate_left
        simp only [List.getElem?_toArray, List.getElem?_cons_succ, List.getElem?_cons_zero] at hoi
        cases hoi
        refine ⟨fun _ _ _ h => h, Or.inl ⟨by rfl, ?_⟩, by assumption, ?_⟩
        · (intro w hSw; (try dsimp only at hSw); go_simp; all_goals with_reducible rfl)
        try simp only [Act.put, List.setIfInBounds_toArray, List.set_cons_zero, List.set_cons_succ]
        refine C.tk_take (i := 33) (v := ?_) (by kernel_rfl) (by kernel_rfl) (by kernel_rfl) (fun oi hoi => ?_) rfl
        rotate_left
        simp only [List.getElem?_toArray, List.getElem?_cons_succ, List.getElem?_cons_zero] at hoi
        cases hoi
        refine ⟨fun _ _ _ h => h, Or.inl ⟨by rfl, ?_⟩, by assumption, ?_⟩
        · (intro w hSw; (try dsimp only at hSw); go_simp; all_goals with_reducible rfl)
        try simp only [Act.put, List.setIfInBounds_toArray, List.set_cons_zero, List.set_cons_succ]
        refine wpAnyH_done (by kernel_rfl) ?_ _
        go_wp2
        go_roundg (ms.length - k)
        case measure => have := HI.out; have := HH.out; omega
        case rel => exact ⟨k + 1, by rw [HNX.out]; unfold rp_line; simp only [ByteArray.append_assoc], (by first | rfl | (simp; done)), ⟨by have := HI.out; have := HH.out; omega⟩, ⟨HW5.out⟩, ⟨blk_below HN2.out HQ5.out⟩⟩
    · have hke : k = ms.length := by have := HI.out; omega
      subst hke
      have hss : (rp_sum T ms ts ms.length).size ≤ 84000000 := by have := HSZ.out ms.length (Nat.le_refl _); omega
      obtain ⟨s, hs⟩ : ∃ s, rp_sum T ms ts ms.length = s := ⟨_, rfl⟩
      rw [hs] at hss ⊢
      have HSS := Aside0.mk hs
      clear hs
      have k2 : ¬ ((ms.length : Int) < (ms.length : Int)) := by omega
      have k2b : decide (ms.length < ms.length) = false := decide_eq_false (by omega)
      obtain ⟨g0, g1, g2, g3, g4, g5⟩ := HAA.out
      have y1 := (hT a0 (by omega)).2.2
      have y2 := (hT (a1 - a0) (by omega)).2.2
      have y3 := (hT (a2 - a1) (by omega)).2.2
      have y4 := (hT (a3 - a2) (by omega)).2.2
      have y5 := (hT (a4 - a3) (by omega)).2.2
      have z0 : (9223372036854775807 < s.size + 5) = False := eq_false (by omega)
      have z1 : (9223372036854775807 < s.size + 5 + (T a0).size) = False := eq_false (by omega)
      have z2 : (9223372036854775807 < s.size + 5 + (T a0).size + 9) = False := eq_false (by omega)
      have z3 : (9223372036854775807 < s.size + 5 + (T a0).size + 9 + (T (a1 - a0)).size) = False := eq_false (by omega)
      have z4 : (9223372036854775807 < s.size + 5 + (T a0).size + 9 + (T (a1 - a0)).size + 12) = False := eq_false (by omega)
      have z5 : (9223372036854775807 < s.size + 5 + (T a0).size + 9 + (T (a1 - a0)).size + 12 + (T (a2 - a1)).size) = False := eq_false (by omega)
      have z6 : (9223372036854775807 < s.size + 5 + (T a0).size + 9 + (T (a1 - a0)).size + 12 + (T (a2 - a1)).size + 7) = False := eq_false (by omega)
      have z7 : (9223372036854775807 < s.size + 5 + (T a0).size + 9 + (T (a1 - a0)).size + 12 + (T (a2 - a1)).size + 7 + (T (a3 - a2)).size) = False := eq_false (by omega)
      have z8 : (9223372036854775807 < s.size + 5 + (T a0).size + 9 + (T (a1 - a0)).size + 12 + (T (a2 - a1)).size + 7 + (T (a3 - a2)).size + 8) = False := eq_false (by omega)
      have z9 : (9223372036854775807 < s.size + 5 + (T a0).size + 9 + (T (a1 - a0)).size + 12 + (T (a2 - a1)).size + 7 + (T (a3 - a2)).size + 8 + (T (a4 - a3)).size) = False := eq_false (by omega)
      have z10 : (9223372036854775807 < s.size + 5 + (T a0).size + 9 + (T (a1 - a0)).size + 12 + (T (a2 - a1)).size + 7 + (T (a3 - a2)).size + 8 + (T (a4 - a3)).size + 1) = False := eq_false (by omega)
      have wr0 : IntKind.u32.wrap (a1 - a0) = a1 - a0 := by rw [IntKind.wrap_u32]; omega
      have wr1 : IntKind.u32.wrap (a2 - a1) = a2 - a1 := by rw [IntKind.wrap_u32]; omega
      have wr2 : IntKind.u32.wrap (a3 - a2) = a3 - a2 := by rw [IntKind.wrap_u32]; omega
      have wr3 : IntKind.u32.wrap (a4 - a3) = a4 - a3 := by rw [IntKind.wrap_u32]; omega
      have wi0 : IntKind.i64.wrap (a0) = a0 := by rw [IntKind.wrap_i64]; omega
      have wi1 : IntKind.i64.wrap (a1 - a0) = a1 - a0 := by rw [IntKind.wrap_i64]; omega
      have wi2 : IntKind.i64.wrap (a2 - a1) = a2 - a1 := by rw [IntKind.wrap_i64]; omega
      have wi3 : IntKind.i64.wrap (a3 - a2) = a3 - a2 := by rw [IntKind.wrap_i64]; omega
      have wi4 : IntKind.i64.wrap (a4 - a3) = a4 - a3 := by rw [IntKind.wrap_i64]; omega
      clear hss hk y1 y2 y3 y4 y5
      have cE0 : wr.cell? ⟨b2, 0, none⟩ = some (.int .u32 a0) := blk_cell HX2r.out 0
      have cE1 : wr.cell? ⟨b2, 1, none⟩ = some (.int .u32 a1) := blk_cell HX2r.out 1
      have cE2 : wr.cell? ⟨b2, 2, none⟩ = some (.int .u32 a2) := blk_cell HX2r.out 2
      have cE3 : wr.cell? ⟨b2, 3, none⟩ = some (.int .u32 a3) := blk_cell HX2r.out 3
      have cE4 : wr.cell? ⟨b2, 4, none⟩ = some (.int .u32 a4) := blk_cell HX2r.out 4
      go_wp2_with ((with_reducible refine gate_dst (N := 9) rfl ?_); refine box_event ?hg (N := 9) ?hd (cs := #[.int .u32 0, .int .u32 0, .int .u32 0, .int .u32 0, .int .u32 0]) (t := 54) ?hr ?_; (case hd => rfl); (case hg => rfl); (case hr => first | (go_simp; done) | (go_simp; rfl)); intro b9 hgx w9 hbox hb; have HB9a := Aside0.mk hb; have HX9 := Aside0.mk hbox; have HG9 := Aside0.mk (show wr.heap.size ≤ b9 from Nat.le_of_eq hgx.symm); have dE0 := pw_cell_below hb cE0; have dE1 := pw_cell_below hb cE1; have dE2 := pw_cell_below hb cE2; have dE3 := pw_cell_below hb cE3; have dE4 := pw_cell_below hb cE4; have v0 : w9.cell? ⟨b9, 0, none⟩ = some (.int .u32 0) := blk_cell hbox 0; have v1 : w9.cell? ⟨b9, 1, none⟩ = some (.int .u32 0) := blk_cell hbox 1; have v2 : w9.cell? ⟨b9, 2, none⟩ = some (.int .u32 0) := blk_cell hbox 2; have v3 : w9.cell? ⟨b9, 3, none⟩ = some (.int .u32 0) := blk_cell hbox 3; have v4 : w9.cell? ⟨b9, 4, none⟩ = some (.int .u32 0) := blk_cell hbox 4; have s0 := blk_frozen hbox 0; have s1 := blk_frozen hbox 1; have s2 := blk_frozen hbox 2; have s3 := blk_frozen hbox 3; have s4 := blk_frozen hbox 4; clear hgx hbox hb cE0 cE1 cE2 cE3 cE4 cM0)
      obtain ⟨W9, hW9⟩ : ∃ W9 : World, (((((w9.setCell ⟨b9, 0, none⟩ (.int .u32 a0)).setCell ⟨b9, 1, none⟩ (.int .u32 a1)).setCell ⟨b9, 2, none⟩ (.int .u32 a2)).setCell ⟨b9, 3, none⟩ (.int .u32 a3)).setCell ⟨b9, 4, none⟩ (.int .u32 a4)) = W9 := ⟨_, rfl⟩
      rw [hW9]
      have hx := rp_put5 HX9.out (.int .u32 a0) (.int .u32 a1) (.int .u32 a2) (.int .u32 a3) (.int .u32 a4)
      rw [hW9] at hx
      have HN7 := Aside0.mk hx
      have hb := rp_put5b HB9a.out HG9.out (.int .u32 a0) (.int .u32 a1) (.int .u32 a2) (.int .u32 a3) (.int .u32 a4)
      rw [hW9] at hb
      have HB9 := Aside0.mk (below_step HB.out hb)
      clear hx hb hW9 HX9 HB9a v0 v1 v2 v3 v4 s0 s1 s2 s3 s4 dE0 dE1 dE2 dE3 dE4
      refine wp_region_held_drew (S := fun w' => w'.cell? ⟨b9, 0, none⟩ = some (.int .u32 a0) ∧ w'.cell? ⟨b9, 1, none⟩ = some (.int .u32 a1) ∧ w'.cell? ⟨b9, 2, none⟩ = some (.int .u32 a2) ∧ w'.cell? ⟨b9, 3, none⟩ = some (.int .u32 a3) ∧ w'.cell? ⟨b9, 4, none⟩ = some (.int .u32 a4)) (by kernel_rfl) (show W9.drew.cell? ⟨b9, 0, none⟩ = some (.int .u32 a0) ∧ W9.drew.cell? ⟨b9, 1, none⟩ = some (.int .u32 a1) ∧ W9.drew.cell? ⟨b9, 2, none⟩ = some (.int .u32 a2) ∧ W9.drew.cell? ⟨b9, 3, none⟩ = some (.int .u32 a3) ∧ W9.drew.cell? ⟨b9, 4, none⟩ = some (.int .u32 a4) from ⟨blk_cell (blk_drew HN7.out) 0, blk_cell (blk_drew HN7.out) 1, blk_cell (blk_drew HN7.out) 2, blk_cell (blk_drew HN7.out) 3, blk_cell (blk_drew HN7.out) 4⟩) (fun hHeld => ?_)
      refine C.tk_take (i := 0) (v := ?_) (by kernel_rfl) (by kernel_rfl) (by kernel_rfl) (fun oi hoi => ?_) rfl
      rotate_left
      simp only [List.getElem?_toArray, List.getElem?_cons_succ, List.getElem?_cons_zero] at hoi
      cases hoi
      refine ⟨fun _ _ _ h => h, Or.inl ⟨by rfl, ?_⟩, by assumption, ?_⟩
      · (intro w hSw; (try dsimp only at hSw); go_simp; all_goals with_reducible rfl)
      try simp only [Act.put, List.setIfInBounds_toArray, List.set_cons_zero, List.set_cons_succ]
      refine C.tk_take (i := 1) (v := ?_) (by kernel_rfl) (by kernel_rfl) (by kernel_rfl) (fun oi hoi => ?_) rfl
      rotate_left
      simp only [List.getElem?_toArray, List.getElem?_cons_succ, List.getElem?_cons_zero] at hoi
      cases hoi
      refine ⟨fun _ _ _ h => h, Or.inl ⟨by rfl, ?_⟩, by assumption, ?_⟩
      · (intro w hSw; (try dsimp only at hSw); go_simp; all_goals with_reducible rfl)
      try simp only [Act.put, List.setIfInBounds_toArray, List.set_cons_zero, List.set_cons_succ]
      refine C.tk_take (i := 2) (v := ?_) (by kernel_rfl) (by kernel_rfl) (by kernel_rfl) (fun oi hoi => ?_) rfl
      rotate_left
      simp only [List.getElem?_toArray, List.getElem?_cons_succ, List.getElem?_cons_zero] at hoi
      cases hoi
      refine ⟨fun _ _ _ h => h, Or.inl ⟨by rfl, ?_⟩, by assumption, ?_⟩
      · (intro w hSw; (try dsimp only at hSw); go_simp; all_goals with_reducible rfl)
      try simp only [Act.put, List.setIfInBounds_toArray, List.set_cons_zero, List.set_cons_succ]
      refine C.tk_take (i := 3) (v := ?_) (by kernel_rfl) (by kernel_rfl) (by kernel_rfl) (fun oi hoi => ?_) rfl
      rotate_left
      simp only [List.getElem?_toArray, List.getElem?_cons_succ, List.getElem?_cons_zero] at hoi
      cases hoi
      refine ⟨fun _ _ _ h => h, Or.inl ⟨by rfl, ?_⟩, by assumption, ?_⟩
      · (intro w hSw; (try dsimp only at hSw); go_simp; all_goals with_reducible rfl)
      try simp only [Act.put, List.setIfInBounds_toArray, List.set_cons_zero, List.set_cons_succ]
      refine C.tk_take (i := 4) (v := ?_) (by kernel_rfl) (by kernel_rfl) (by kernel_rfl) (fun oi hoi => ?_) rfl
      rotate_left
      simp only [List.getElem?_toArray, List.getElem?_cons_succ, List.getElem?_cons_zero] at hoi
      cases hoi
      refine ⟨fun _ _ _ h => h, Or.inl ⟨by rfl, ?_⟩, by assumption, ?_⟩
      · (intro w hSw; (try dsimp only at hSw); go_simp; all_goals with_reducible rfl)
      try simp only [Act.put, List.setIfInBounds_toArray, List.set_cons_zero, List.set_cons_succ]
      refine C.tk_take (i := 8) (v := ?_) (by kernel_rfl) (by kernel_rfl) (by kernel_rfl) (fun oi hoi => ?_) rfl
      rotate_left
      simp only [List.getElem?_toArray, List.getElem?_cons_succ, List.getElem?_cons_zero] at hoi
      cases hoi
      refine ⟨fun _ _ _ h => h, Or.inl ⟨by rfl, ?_⟩, by assumption, ?_⟩
      · (intro w hSw; (try dsimp only at hSw); go_simp; all_goals with_reducible rfl)
      try simp only [Act.put, List.setIfInBounds_toArray, List.set_cons_zero, List.set_cons_succ]
      refine C.tk_take (i := 9) (v := ?_) (by kernel_rfl) (by kernel_rfl) (by kernel_rfl) (fun oi hoi => ?_) rfl
      rotate_left
      simp only [List.getElem?_toArray, List.getElem?_cons_succ, List.getElem?_cons_zero] at hoi
      cases hoi
      refine ⟨fun _ _ _ h => h, Or.inl ⟨by rfl, ?_⟩, by assumption, ?_⟩
      · (intro w hSw; (try dsimp only at hSw); go_simp; all_goals with_reducible rfl)
      try simp only [Act.put, List.setIfInBounds_toArray, List.set_cons_zero, List.set_cons_succ]
      refine C.tk_take (i := 10) (v := ?_) (by kernel_rfl) (by kernel_rfl) (by kernel_rfl) (fun oi hoi => ?_) rfl
      rotate_left
      simp only [List.getElem?_toArray, List.getElem?_cons_succ, List.getElem?_cons_zero] at hoi
      cases hoi
      refine ⟨fun _ _ _ h => h, Or.inl ⟨by rfl, ?_⟩, by assumption, ?_⟩
      · (intro w hSw; (try dsimp only at hSw); go_simp; all_goals with_reducible rfl)
      try simp only [Act.put, List.setIfInBounds_toArray, List.set_cons_zero, List.set_cons_succ]
      refine C.tk_take (i := 11) (v := ?_) (by kernel_rfl) (by kernel_rfl) (by kernel_rfl) (fun oi hoi => ?_) rfl
      rotate_left
      simp only [List.getElem?_toArray, List.getElem?_cons_succ, List.getElem?_cons_zero] at hoi
      cases hoi
      refine ⟨fun _ _ _ h => h, Or.inl ⟨by rfl, ?_⟩, by assumption, ?_⟩
      · (intro w hSw; (try dsimp only at hSw); go_simp; all_goals with_reducible rfl)
      try simp only [Act.put, List.setIfInBounds_toArray, List.set_cons_zero, List.set_cons_succ]
      refine C.tk_take (i := 12) (v := ?_) (by kernel_rfl) (by kernel_rfl) (by kernel_rfl) (fun oi hoi => ?_) rfl
      rotate_left
      simp only [List.getElem?_toArray, List.getElem?_cons_succ, List.getElem?_cons_zero] at hoi
      cases hoi
      refine ⟨fun _ _ _ h => h, Or.inl ⟨by rfl, ?_⟩, by assumption, ?_⟩
      · (intro w hSw; (try dsimp only at hSw); go_simp; all_goals with_reducible rfl)
      try simp only [Act.put, List.setIfInBounds_toArray, List.set_cons_zero, List.set_cons_succ]
      refine C.tk_take (i := 13) (v := ?_) (by kernel_rfl) (by kernel_rfl) (by kernel_rfl) (fun oi hoi => ?_) rfl
      rotate_left
      simp only [List.getElem?_toArray, List.getElem?_cons_succ, List.getElem?_cons_zero] at hoi
      cases hoi
      refine ⟨fun _ _ _ h => h, Or.inl ⟨by rfl, ?_⟩, by assumption, ?_⟩
      · (intro w hSw; (try dsimp only at hSw); go_simp; all_goals with_reducible rfl)
      try simp only [Act.put, List.setIfInBounds_toArray, List.set_cons_zero, List.set_cons_succ]
      refine C.tk_take (i := 17) (v := ?_) (by kernel_rfl) (by kernel_rfl) (by kernel_rfl) (fun oi hoi => ?_) rfl
      rotate_left
      simp only [List.getElem?_toArray, List.getElem?_cons_succ, List.getElem?_cons_zero] at hoi
      cases hoi
      refine ⟨fun _ _ _ h => h, Or.inl ⟨by rfl, ?_⟩, by assumption, ?_⟩
      · (intro w hSw; (try dsimp only at hSw); go_simp; all_goals with_reducible rfl)
      try simp only [Act.put, List.setIfInBounds_toArray, List.set_cons_zero, List.set_cons_succ]
      refine C.tk_take (i := 18) (v := ?_) (by kernel_rfl) (by kernel_rfl) (by kernel_rfl) (fun oi hoi => ?_) rfl
      rotate_left
      simp only [List.getElem?_toArray, List.getElem?_cons_succ, List.getElem?_cons_zero] at hoi
      cases hoi
      refine ⟨fun _ _ _ h => h, Or.inl ⟨by rfl, ?_⟩, by assumption, ?_⟩
      · (intro w hSw; (try dsimp only at hSw); go_simp; all_goals with_reducible rfl)
      try simp only [Act.put, List.setIfInBounds_toArray, List.set_cons_zero, List.set_cons_succ]
      refine C.tk_take (i := 19) (v := ?_) (by kernel_rfl) (by kernel_rfl) (by kernel_rfl) (fun oi hoi => ?_) rfl
      rotate_left
      simp only [List.getElem?_toArray, List.getElem?_cons_succ, List.getElem?_cons_zero] at hoi
      cases hoi
      refine ⟨fun _ _ _ h => h, Or.inl ⟨by rfl, ?_⟩, by assumption, ?_⟩
      · (intro w hSw; (try dsimp only at hSw); go_simp; all_goals with_reducible rfl)
      try simp only [Act.put, List.setIfInBounds_toArray, List.set_cons_zero, List.set_cons_succ]
      refine C.tk_take (i := 20) (v := ?_) (by kernel_rfl) (by kernel_rfl) (by kernel_rfl) (fun oi hoi => ?_) rfl
      rotate_left
      simp only [List.getElem?_toArray, List.getElem?_cons_succ, List.getElem?_cons_zero] at hoi
      cases hoi
      refine ⟨fun _ _ _ h => h, Or.inl ⟨by rfl, ?_⟩, by assumption, ?_⟩
      · (intro w hSw; (try dsimp only at hSw); go_simp; all_goals with_reducible rfl)
      try simp only [Act.put, List.setIfInBounds_toArray, List.set_cons_zero, List.set_cons_succ]
      refine C.tk_take (i := 21) (v := ?_) (by kernel_rfl) (by kernel_rfl) (by kernel_rfl) (fun oi hoi => ?_) rfl
      rotate_left
      simp only [List.getElem?_toArray, List.getElem?_cons_succ, List.getElem?_cons_zero] at hoi
      cases hoi
      refine ⟨fun _ _ _ h => h, Or.inl ⟨by rfl, ?_⟩, by assumption, ?_⟩
      · (intro w hSw; (try dsimp only at hSw); go_simp; all_goals with_reducible rfl)
      try simp only [Act.put, List.setIfInBounds_toArray, List.set_cons_zero, List.set_cons_succ]
      refine C.tk_take (i := 22) (v := ?_) (by kernel_rfl) (by kernel_rfl) (by kernel_rfl) (fun oi hoi => ?_) rfl
      rotate_left
      simp only [List.getElem?_toArray, List.getElem?_cons_succ, List.getElem?_cons_zero] at hoi
      cases hoi
      refine ⟨fun _ _ _ h => h, Or.inl ⟨by rfl, ?_⟩, by assumption, ?_⟩
      · (intro w hSw; (try dsimp only at hSw); go_simp; all_goals with_reducible rfl)
      try simp only [Act.put, List.setIfInBounds_toArray, List.set_cons_zero, List.set_cons_succ]
      refine C.tk_take (i := 26) (v := ?_) (by kernel_rfl) (by kernel_rfl) (by kernel_rfl) (fun oi hoi => ?_) rfl
      rotate_left
      simp only [List.getElem?_toArray, List.getElem?_cons_succ, List.getElem?_cons_zero] at hoi
      cases hoi
      refine ⟨fun _ _ _ h => h, Or.inl ⟨by rfl, ?_⟩, by assumption, ?_⟩
      · (intro w hSw; (try dsimp only at hSw); go_simp; all_goals with_reducible rfl)
      try simp only [Act.put, List.setIfInBounds_toArray, List.set_cons_zero, List.set_cons_succ]
      refine C.tk_take (i := 27) (v := ?_) (by kernel_rfl) (by kernel_rfl) (by kernel_rfl) (fun oi hoi => ?_) rfl
      rotate_left
      simp only [List.getElem?_toArray, List.getElem?_cons_succ, List.getElem?_cons_zero] at hoi
      cases hoi
      refine ⟨fun _ _ _ h => h, Or.inl ⟨by rfl, ?_⟩, by assumption, ?_⟩
      · (intro w hSw; (try dsimp only at hSw); go_simp; all_goals with_reducible rfl)
      try simp only [Act.put, List.setIfInBounds_toArray, List.set_cons_zero, List.set_cons_succ]
      refine C.tk_take (i := 28) (v := ?_) (by kernel_rfl) (by kernel_rfl) (by kernel_rfl) (fun oi hoi => ?_) rfl
      rotate_left
      simp only [List.getElem?_toArray, List.getElem?_cons_succ, List.getElem?_cons_zero] at hoi
      cases hoi
      refine ⟨fun _ _ _ h => h, Or.inl ⟨by rfl, ?_⟩, by assumption, ?_⟩
      · (intro w hSw; (try dsimp only at hSw); go_simp; all_goals with_reducible rfl)
      try simp only [Act.put, List.setIfInBounds_toArray, List.set_cons_zero, List.set_cons_succ]
      refine C.tk_take (i := 29) (v := ?_) (by kernel_rfl) (by kernel_rfl) (by kernel_rfl) (fun oi hoi => ?_) rfl
      rotate_left
      simp only [List.getElem?_toArray, List.getElem?_cons_succ, List.getElem?_cons_zero] at hoi
      cases hoi
      refine ⟨fun _ _ _ h => h, Or.inl ⟨by rfl, ?_⟩, by assumption, ?_⟩
      · (intro w hSw; (try dsimp only at hSw); go_simp; all_goals with_reducible rfl)
      try simp only [Act.put, List.setIfInBounds_toArray, List.set_cons_zero, List.set_cons_succ]
      refine C.tk_take (i := 30) (v := ?_) (by kernel_rfl) (by kernel_rfl) (by kernel_rfl) (fun oi hoi => ?_) rfl
      rotate_left
      simp only [List.getElem?_toArray, List.getElem?_cons_succ, List.getElem?_cons_zero] at hoi
      cases hoi
      refine ⟨fun _ _ _ h => h, Or.inl ⟨by rfl, ?_⟩, by assumption, ?_⟩
      · (intro w hSw; (try dsimp only at hSw); go_simp; all_goals with_reducible rfl)
      try simp only [Act.put, List.setIfInBounds_toArray, List.set_cons_zero, List.set_cons_succ]
      refine C.tk_take (i := 31) (v := ?_) (by kernel_rfl) (by kernel_rfl) (by kernel_rfl) (fun oi hoi => ?_) rfl
      rotate_left
      simp only [List.getElem?_toArray, List.getElem?_cons_succ, List.getElem?_cons_zero] at hoi
      cases hoi
      refine ⟨fun _ _ _ h => h, Or.inl ⟨by rfl, ?_⟩, by assumption, ?_⟩
      · (intro w hSw; (try dsimp only at hSw); go_simp; all_goals with_reducible rfl)
      try simp only [Act.put, List.setIfInBounds_toArray, List.set_cons_zero, List.set_cons_succ]
      refine C.tk_take (i := 35) (v := ?_) (by kernel_rfl) (by kernel_rfl) (by kernel_rfl) (fun oi hoi => ?_) rfl
      rotate_left
      simp only [List.getElem?_toArray, List.getElem?_cons_succ, List.getElem?_cons_zero] at hoi
      cases hoi
      refine ⟨fun _ _ _ h => h, Or.inl ⟨by rfl, ?_⟩, by assumption, ?_⟩
      · (intro w hSw; (try dsimp only at hSw); go_simp; all_goals with_reducible rfl)
      try simp only [Act.put, List.setIfInBounds_toArray, List.set_cons_zero, List.set_cons_succ]
      refine C.tk_take (i := 36) (v := ?_) (by kernel_rfl) (by kernel_rfl) (by kernel_rfl) (fun oi hoi => ?_) rfl
      rotate_left
      simp only [List.getElem?_toArray, List.getElem?_cons_succ, List.getElem?_cons_zero] at hoi
      cases hoi
      refine ⟨fun _ _ _ h => h, Or.inl ⟨by rfl, ?_⟩, by assumption, ?_⟩
      · (intro w hSw; (try dsimp only at hSw); go_simp; all_goals with_reducible rfl)
      try simp only [Act.put, List.setIfInBounds_toArray, List.set_cons_zero, List.set_cons_succ]
      refine C.tk_take (i := 37) (v := ?_) (by kernel_rfl) (by kernel_rfl) (by kernel_rfl) (fun oi hoi => ?_) rfl
      rotate_left
      simp only [List.getElem?_toArray, List.getElem?_cons_succ, List.getElem?_cons_zero] at hoi
      cases hoi
      refine ⟨fun _ _ _ h => h, Or.inl ⟨by rfl, ?_⟩, by assumption, ?_⟩
      · (intro w hSw; (try dsimp only at hSw); go_simp; all_goals with_reducible rfl)
      try simp only [Act.put, List.setIfInBounds_toArray, List.set_cons_zero, List.set_cons_succ]
      refine C.tk_take (i := 38) (v := ?_) (by kernel_rfl) (by kernel_rfl) (by kernel_rfl) (fun oi hoi => ?_) rfl
      rotate_left
      simp only [List.getElem?_toArray, List.getElem?_cons_succ, List.getElem?_cons_zero] at hoi
      cases hoi
      refine ⟨fun _ _ _ h => h, Or.inl ⟨by rfl, ?_⟩, by assumption, ?_⟩
      · (intro w hSw; (try dsimp only at hSw); go_simp; all_goals with_reducible rfl)
      try simp only [Act.put, List.setIfInBounds_toArray, List.set_cons_zero, List.set_cons_succ]
      refine C.tk_take (i := 39) (v := ?_) (by kernel_rfl) (by kernel_rfl) (by kernel_rfl) (fun oi hoi => ?_) rfl
      rotate_left
      simp only [List.getElem?_toArray, List.getElem?_cons_succ, List.getElem?_cons_zero] at hoi
      cases hoi
      refine ⟨fun _ _ _ h => h, Or.inl ⟨by rfl, ?_⟩, by assumption, ?_⟩
      · (intro w hSw; (try dsimp only at hSw); go_simp; all_goals with_reducible rfl)
      try simp only [Act.put, List.setIfInBounds_toArray, List.set_cons_zero, List.set_cons_succ]
      refine C.tk_take (i := 40) (v := ?_) (by kernel_rfl) (by kernel_rfl) (by kernel_rfl) (fun oi hoi => ?_) rfl
      rotate_left
      simp only [List.getElem?_toArray, List.getElem?_cons_succ, List.getElem?_cons_zero] at hoi
      cases hoi
      refine ⟨fun _ _ _ h => h, Or.inl ⟨by rfl, ?_⟩, by assumption, ?_⟩
      · (intro w hSw; (try dsimp only at hSw); go_simp; all_goals with_reducible rfl)
      try simp only [Act.put, List.setIfInBounds_toArray, List.set_cons_zero, List.set_cons_succ]
      refine wpAnyH_ready (rs := [5]) (by kernel_rfl) (by simp) ?_
      refine AllReadyH.cons rfl (fun K hK => ?_) AllReadyH.nil
      rw [if_pos (by rfl)]
      go_simp
      go_at_call 22
      refine (pascalineref01_Text.calls a0 (T a0) _ (hT a0 (by omega)).2.1).mono ?_
      rintro e u1 ⟨rfl, hb⟩
      have HY1 := Aside0.mk (blk_below (blk_drew HN7.out) hb)
      have HW1 := Aside0.mk (below_step (below_drew HB9.out) hb)
      have hS1 : u1.cell? ⟨b9, 0, none⟩ = some (.int .u32 a0) ∧ u1.cell? ⟨b9, 1, none⟩ = some (.int .u32 a1) ∧ u1.cell? ⟨b9, 2, none⟩ = some (.int .u32 a2) ∧ u1.cell? ⟨b9, 3, none⟩ = some (.int .u32 a3) ∧ u1.cell? ⟨b9, 4, none⟩ = some (.int .u32 a4) := ⟨blk_cell HY1.out 0, blk_cell HY1.out 1, blk_cell HY1.out 2, blk_cell HY1.out 3, blk_cell HY1.out 4⟩
      clear hb
      go_wp2
      refine hK.out _ _ hS1 (fun hHeld => ?_)
      clear hK
      try simp only [Act.put, List.setIfInBounds_toArray, List.set_cons_zero, List.set_cons_succ]
      refine C.tk_take (i := 6) (v := ?_) (by kernel_rfl) (by kernel_rfl) (by kernel_rfl) (fun oi hoi => ?_) rfl
      rotate_left
      simp only [List.getElem?_toArray, List.getElem?_cons_succ, List.getElem?_cons_zero] at hoi
      cases hoi
      refine ⟨fun _ _ _ h => h, Or.inl ⟨by rfl, ?_⟩, by assumption, ?_⟩
      · (intro w hSw; (try dsimp only at hSw); go_simp; all_goals with_reducible rfl)
      try simp only [Act.put, List.setIfInBounds_toArray, List.set_cons_zero, List.set_cons_succ]
      refine C.tk_take (i := 7) (v := ?_) (by kernel_rfl) (by kernel_rfl) (by kernel_rfl) (fun oi hoi => ?_) rfl
      rotate_left
      simp only [List.getElem?_toArray, List.getElem?_cons_succ, List.getElem?_cons_zero] at hoi
      cases hoi
      refine ⟨fun _ _ _ h => h, Or.inl ⟨by rfl, ?_⟩, by assumption, ?_⟩
      · (intro w hSw; (try dsimp only at hSw); go_simp; all_goals with_reducible rfl)
      try simp only [Act.put, List.setIfInBounds_toArray, List.set_cons_zero, List.set_cons_succ]
      refine wpAnyH_ready (rs := [14]) (by kernel_rfl) (by simp) ?_
      refine AllReadyH.cons rfl (fun K hK => ?_) AllReadyH.nil
      rw [if_pos (by rfl)]
      go_simp
      go_at_call 22
      refine (pascalineref01_Text.calls (a1 - a0) (T (a1 - a0)) _ (hT (a1 - a0) (by omega)).2.1).mono ?_
      rintro e u2 ⟨rfl, hb⟩
      have HY2 := Aside0.mk (blk_below HY1.out hb)
      have HW2 := Aside0.mk (below_step HW1.out hb)
      have hS2 : u2.cell? ⟨b9, 0, none⟩ = some (.int .u32 a0) ∧ u2.cell? ⟨b9, 1, none⟩ = some (.int .u32 a1) ∧ u2.cell? ⟨b9, 2, none⟩ = some (.int .u32 a2) ∧ u2.cell? ⟨b9, 3, none⟩ = some (.int .u32 a3) ∧ u2.cell? ⟨b9, 4, none⟩ = some (.int .u32 a4) := ⟨blk_cell HY2.out 0, blk_cell HY2.out 1, blk_cell HY2.out 2, blk_cell HY2.out 3, blk_cell HY2.out 4⟩
      clear hb
      go_wp2
      refine hK.out _ _ hS2 (fun hHeld => ?_)
      clear hK
      try simp only [Act.put, List.setIfInBounds_toArray, List.set_cons_zero, List.set_cons_succ]
      refine C.tk_take (i := 15) (v := ?_) (by kernel_rfl) (by kernel_rfl) (by kernel_rfl) (fun oi hoi => ?_) rfl
      rotate_left
      simp only [List.getElem?_toArray, List.getElem?_cons_succ, List.getElem?_cons_zero] at hoi
      cases hoi
      refine ⟨fun _ _ _ h => h, Or.inl ⟨by rfl, ?_⟩, by assumption, ?_⟩
      · (intro w hSw; (try dsimp only at hSw); go_simp; all_goals with_reducible rfl)
      try simp only [Act.put, List.setIfInBounds_toArray, List.set_cons_zero, List.set_cons_succ]
      refine C.tk_take (i := 16) (v := ?_) (by kernel_rfl) (by kernel_rfl) (by kernel_rfl) (fun oi hoi => ?_) rfl
      rotate_left
      simp only [List.getElem?_toArray, List.getElem?_cons_succ, List.getElem?_cons_zero] at hoi
      cases hoi
      refine ⟨fun _ _ _ h => h, Or.inl ⟨by rfl, ?_⟩, by assumption, ?_⟩
      · (intro w hSw; (try dsimp only at hSw); go_simp; all_goals with_reducible rfl)
      try simp only [Act.put, List.setIfInBounds_toArray, List.set_cons_zero, List.set_cons_succ]
      refine wpAnyH_ready (rs := [23]) (by kernel_rfl) (by simp) ?_
      refine AllReadyH.cons rfl (fun K hK => ?_) AllReadyH.nil
      rw [if_pos (by rfl)]
      go_simp
      go_at_call 22
      refine (pascalineref01_Text.calls (a2 - a1) (T (a2 - a1)) _ (hT (a2 - a1) (by omega)).2.1).mono ?_
      rintro e u3 ⟨rfl, hb⟩
      have HY3 := Aside0.mk (blk_below HY2.out hb)
      have HW3 := Aside0.mk (below_step HW2.out hb)
      have hS3 : u3.cell? ⟨b9, 0, none⟩ = some (.int .u32 a0) ∧ u3.cell? ⟨b9, 1, none⟩ = some (.int .u32 a1) ∧ u3.cell? ⟨b9, 2, none⟩ = some (.int .u32 a2) ∧ u3.cell? ⟨b9, 3, none⟩ = some (.int .u32 a3) ∧ u3.cell? ⟨b9, 4, none⟩ = some (.int .u32 a4) := ⟨blk_cell HY3.out 0, blk_cell HY3.out 1, blk_cell HY3.out 2, blk_cell HY3.out 3, blk_cell HY3.out 4⟩
      clear hb
      go_wp2
      refine hK.out _ _ hS3 (fun hHeld => ?_)
      clear hK
      try simp only [Act.put, List.setIfInBounds_toArray, List.set_cons_zero, List.set_cons_succ]
      refine C.tk_take (i := 24) (v := ?_) (by kernel_rfl) (by kernel_rfl) (by kernel_rfl) (fun oi hoi => ?_) rfl
      rotate_left
      simp only [List.getElem?_toArray, List.getElem?_cons_succ, List.getElem?_cons_zero] at hoi
      cases hoi
      refine ⟨fun _ _ _ h => h, Or.inl ⟨by rfl, ?_⟩, by assumption, ?_⟩
      · (intro w hSw; (try dsimp only at hSw); go_simp; all_goals with_reducible rfl)
      try simp only [Act.put, List.setIfInBounds_toArray, List.set_cons_zero, List.set_cons_succ]
      refine C.tk_take (i := 25) (v := ?_) (by kernel_rfl) (by kernel_rfl) (by kernel_rfl) (fun oi hoi => ?_) rfl
      rotate_left
      simp only [List.getElem?_toArray, List.getElem?_cons_succ, List.getElem?_cons_zero] at hoi
      cases hoi
      refine ⟨fun _ _ _ h => h, Or.inl ⟨by rfl, ?_⟩, by assumption, ?_⟩
      · (intro w hSw; (try dsimp only at hSw); go_simp; all_goals with_reducible rfl)
      try simp only [Act.put, List.setIfInBounds_toArray, List.set_cons_zero, List.set_cons_succ]
      refine wpAnyH_ready (rs := [32]) (by kernel_rfl) (by simp) ?_
      refine AllReadyH.cons rfl (fun K hK => ?_) AllReadyH.nil
      rw [if_pos (by rfl)]
      go_simp
      go_at_call 22
      refine (pascalineref01_Text.calls (a3 - a2) (T (a3 - a2)) _ (hT (a3 - a2) (by omega)).2.1).mono ?_
      rintro e u4 ⟨rfl, hb⟩
      have HY4 := Aside0.mk (blk_below HY3.out hb)
      have HW4 := Aside0.mk (below_step HW3.out hb)
      have hS4 : u4.cell? ⟨b9, 0, none⟩ = some (.int .u32 a0) ∧ u4.cell? ⟨b9, 1, none⟩ = some (.int .u32 a1) ∧ u4.cell? ⟨b9, 2, none⟩ = some (.int .u32 a2) ∧ u4.cell? ⟨b9, 3, none⟩ = some (.int .u32 a3) ∧ u4.cell? ⟨b9, 4, none⟩ = some (.int .u32 a4) := ⟨blk_cell HY4.out 0, blk_cell HY4.out 1, blk_cell HY4.out 2, blk_cell HY4.out 3, blk_cell HY4.out 4⟩
      clear hb
      go_wp2
      refine hK.out _ _ hS4 (fun hHeld => ?_)
      clear hK
      try simp only [Act.put, List.setIfInBounds_toArray, List.set_cons_zero, List.set_cons_succ]
      refine C.tk_take (i := 33) (v := ?_) (by kernel_rfl) (by kernel_rfl) (by kernel_rfl) (fun oi hoi => ?_) rfl
      rotate_left
      simp only [List.getElem?_toArray, List.getElem?_cons_succ, List.getElem?_cons_zero] at hoi
      cases hoi
      refine ⟨fun _ _ _ h => h, Or.inl ⟨by rfl, ?_⟩, by assumption, ?_⟩
      · (intro w hSw; (try dsimp only at hSw); go_simp; all_goals with_reducible rfl)
      try simp only [Act.put, List.setIfInBounds_toArray, List.set_cons_zero, List.set_cons_succ]
      refine C.tk_take (i := 34) (v := ?_) (by kernel_rfl) (by kernel_rfl) (by kernel_rfl) (fun oi hoi => ?_) rfl
      rotate_left
      simp only [List.getElem?_toArray, List.getElem?_cons_succ, List.getElem?_cons_zero] at hoi
      cases hoi
      refine ⟨fun _ _ _ h => h, Or.inl ⟨by rfl, ?_⟩, by assumption, ?_⟩
      · (intro w hSw; (try dsimp only at hSw); go_simp; all_goals with_reducible rfl)
      try simp only [Act.put, List.setIfInBounds_toArray, List.set_cons_zero, List.set_cons_succ]
      refine wpAnyH_ready (rs := [41]) (by kernel_rfl) (by simp) ?_
      refine AllReadyH.cons rfl (fun K hK => ?_) AllReadyH.nil
      rw [if_pos (by rfl)]
      go_simp
      go_at_call 22
      refine (pascalineref01_Text.calls (a4 - a3) (T (a4 - a3)) _ (hT (a4 - a3) (by omega)).2.1).mono ?_
      rintro e u5 ⟨rfl, hb⟩
      have HY5 := Aside0.mk (blk_below HY4.out hb)
      have HW5 := Aside0.mk (below_step HW4.out hb)
      have hS5 : u5.cell? ⟨b9, 0, none⟩ = some (.int .u32 a0) ∧ u5.cell? ⟨b9, 1, none⟩ = some (.int .u32 a1) ∧ u5.cell? ⟨b9, 2, none⟩ = some (.int .u32 a2) ∧ u5.cell? ⟨b9, 3, none⟩ = some (.int .u32 a3) ∧ u5.cell? ⟨b9, 4, none⟩ = some (.int .u32 a4) := ⟨blk_cell HY5.out 0, blk_cell HY5.out 1, blk_cell HY5.out 2, blk_cell HY5.out 3, blk_cell HY5.out 4⟩
      clear hb
      go_wp2
      refine hK.out _ _ hS5 (fun hHeld => ?_)
      clear hK
      try simp only [Act.put, List.setIfInBounds_toArray, List.set_cons_zero, List.set_cons_succ]
      refine C.tk_take (i := 42) (v := ?_) (by kernel_rfl) (by kernel_rfl) (by kernel_rfl) (fun oi hoi => ?_) rfl
      rotate_left
      simp only [List.getElem?_toArray, List.getElem?_cons_succ, List.getElem?_cons_zero] at hoi
      cases hoi
      refine ⟨fun _ _ _ h => h, Or.inl ⟨by rfl, ?_⟩, by assumption, ?_⟩
      · (intro w hSw; (try dsimp only at hSw); go_simp; all_goals with_reducible rfl)
      try simp only [Act.put, List.setIfInBounds_toArray, List.set_cons_zero, List.set_cons_succ]
      refine C.tk_take (i := 43) (v := ?_) (by kernel_rfl) (by kernel_rfl) (by kernel_rfl) (fun oi hoi => ?_) rfl
      rotate_left
      simp only [List.getElem?_toArray, List.getElem?_cons_succ, List.getElem?_cons_zero] at hoi
      cases hoi
      refine ⟨fun _ _ _ h => h, Or.inl ⟨by rfl, ?_⟩, by assumption, ?_⟩
      · (intro w hSw; (try dsimp only at hSw); go_simp; all_goals with_reducible rfl)
      try simp only [Act.put, List.setIfInBounds_toArray, List.set_cons_zero, List.set_cons_succ]
      refine C.tk_take (i := 44) (v := ?_) (by kernel_rfl) (by kernel_rfl) (by kernel_rfl) (fun oi hoi => ?_) rfl
      rotate_left
      simp only [List.getElem?_toArray, List.getElem?_cons_succ, List.getElem?_cons_zero] at hoi
      cases hoi
      refine ⟨fun _ _ _ h => h, Or.inl ⟨by rfl, ?_⟩, by assumption, ?_⟩
      · (intro w hSw; (try dsimp only at hSw); go_simp; all_goals with_reducible rfl)
      try simp only [Act.put, List.setIfInBounds_toArray, List.set_cons_zero, List.set_cons_succ]
      refine wpAnyH_done (by kernel_rfl) ?_ _
      go_wp2
      go_ret
      exact ⟨by unfold rp_last; rw [HSS.out]; simp only [ByteArray.append_assoc]; try rfl, HW5.out⟩

end Go.Proofs.Ytmebogkhdbbbbaa.P

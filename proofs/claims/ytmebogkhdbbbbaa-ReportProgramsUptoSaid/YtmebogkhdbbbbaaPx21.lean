-- Written by a program of this session (wip/tools/hp.py) out of the translation.
import Derived.Test.YtmebogkhdbbbbaaPx0
import Derived.Test.YtmebogkhdbbbbaaPx2
import Derived.Test.YtmebogkhdbbbbaaPx13
import Derived.Test.YtmebogkhdbbbbaaPx14
import Derived.Test.YtmebogkhdbbbbaaPx16
import Derived.Test.YtmebogkhdbbbbaaPx17
import Derived.Test.YtmebogkhdbbbbaaPx19
import Derived.Test.YtmebogkhdbbbbaaPx20
namespace Go.Proofs.Ytmebogkhdbbbbaa.P
open Go.RowKit Go.Proofs.YtmebogkhdbbbbaaW.PrintWords Go.Proofs.YtmebogkhdbbbbaaW.PrintLast Go.Proofs.YtmebogkhdbbbbaaW.PrintMore
attribute [local go_sem] max2_int min2_int max_two min_two max_three min_three max_four min_four   -- for this text's walks alone
set_option linter.unusedVariables false
set_option linter.unusedSimpArgs false

/-! ### report_Uses: function 15 -/
/-- Texts of words, at both. -/
def RuH (H : Int → ByteArray) : Prop := ∀ n : Int, 0 ≤ n ∧ n ≤ 4294967295 → word_Hex.f n = some (H n) ∧ (∀ k, pascalineref01_Hex.f (k + 9) n = some (H n)) ∧ (H n).size ≤ 100
def ru_kind (n : Int) : ByteArray := if n = 1 then (⟨#[99, 111, 110, 115, 116]⟩ : ByteArray) else if n = 3 then (⟨#[118, 97, 114]⟩ : ByteArray) else if n = 6 then (⟨#[112, 114, 111, 99, 101, 100, 117, 114, 101]⟩ : ByteArray) else (⟨#[101, 120, 99, 101, 112, 116, 105, 111, 110]⟩ : ByteArray)
theorem ru_kind_eq (n : Int) : report_kind.f n = some (ru_kind n) ∧ pascalineref31_Kind.f n = some (ru_kind n) := by
  unfold report_kind.f pascalineref31_Kind.f ru_kind
  by_cases h1 : n = 1
  · simp only [if_pos h1, and_self]
  · by_cases h3 : n = 3
    · simp only [if_neg h1, if_pos h3, and_self]
    · by_cases h6 : n = 6
      · simp only [if_neg h1, if_neg h3, if_pos h6, and_self]
      · simp only [if_neg h1, if_neg h3, if_neg h6, and_self]
theorem ru_kind_size (n : Int) : (ru_kind n).size ≤ 9 := by
  unfold ru_kind
  split
  · decide
  · split
    · decide
    · split
      · decide
      · decide
def ru_head (H : Int → ByteArray) (a : ByteArray) (n : Int) : ByteArray := (⟨#[109, 111, 100, 117, 108, 101, 32]⟩ : ByteArray) ++ a ++ (⟨#[32]⟩ : ByteArray) ++ H n ++ (⟨#[10]⟩ : ByteArray)
def ru_line (T : Int → ByteArray) (x : S77) : ByteArray := (⟨#[32, 32]⟩ : ByteArray) ++ ru_kind x.f1 ++ (⟨#[32]⟩ : ByteArray) ++ x.f0 ++ (⟨#[32]⟩ : ByteArray) ++ T (x.f4.length : Int) ++ (⟨#[10]⟩ : ByteArray)
def ru_exp (T : Int → ByteArray) (l : List S77) : Nat → ByteArray
  | 0 => ⟨#[]⟩
  | k + 1 => ru_exp T l k ++ ru_line T (rd_T77 l (k : Int))
def ru_file (T H : Int → ByteArray) (f : S46) : ByteArray := ru_head H f.f0 f.f1 ++ ru_exp T f.f3 f.f3.length
def ru_all (T H : Int → ByteArray) (fs : List S46) : Nat → ByteArray
  | 0 => ⟨#[]⟩
  | k + 1 => ru_all T H fs k ++ ru_file T H (rd_T46 fs (k : Int))
def RuOkX (x : S77) : Prop := x.f0.size ≤ 1048576 ∧ x.f4.length ≤ 1048576
def RuOk (f : S46) : Prop := f.f0.size ≤ 1048576 ∧ (0 ≤ f.f1 ∧ f.f1 ≤ 4294967295) ∧ f.f3.length ≤ 60 ∧ ∀ x ∈ f.f3, RuOkX x
theorem ru_head_sz (H : Int → ByteArray) (a : ByteArray) (n : Int) : (ru_head H a n).size = 7 + a.size + 1 + (H n).size + 1 := by unfold ru_head; simp only [ByteArray.size_append]; rfl
theorem ru_line_sz (T : Int → ByteArray) (x : S77) : (ru_line T x).size = 2 + (ru_kind x.f1).size + 1 + x.f0.size + 1 + (T (x.f4.length : Int)).size + 1 := by unfold ru_line; simp only [ByteArray.size_append]; rfl
theorem ru_rdx {l : List S77} {P : S77 → Prop} (h : ∀ x ∈ l, P x) {k : Nat} (hk : k < l.length) : P (rd_T77 l (k : Int)) := by
  unfold rd_T77
  rw [Int.toNat_natCast, List.getD_eq_getElem?_getD, List.getElem?_eq_getElem hk]
  exact h _ (List.getElem_mem _)
theorem ru_rdf {l : List S46} {P : S46 → Prop} (h : ∀ x ∈ l, P x) {k : Nat} (hk : k < l.length) : P (rd_T46 l (k : Int)) := by
  unfold rd_T46
  rw [Int.toNat_natCast, List.getD_eq_getElem?_getD, List.getElem?_eq_getElem hk]
  exact h _ (List.getElem_mem _)
theorem ru_line_size {T : Int → ByteArray} (hT : RpT T) {x : S77} (h : RuOkX x) : (ru_line T x).size ≤ 1050000 := by
  obtain ⟨h0, h1⟩ := h
  have := (hT (x.f4.length : Int) (by omega)).2.2
  have := ru_kind_size x.f1
  rw [ru_line_sz]
  omega
theorem ru_exp_size {T : Int → ByteArray} (hT : RpT T) {l : List S77} (h : ∀ x ∈ l, RuOkX x) : ∀ k : Nat, k ≤ l.length → (ru_exp T l k).size ≤ 1050000 * k
  | 0, _ => Nat.zero_le _
  | k + 1, hk => by
    have ih := ru_exp_size hT h k (by omega)
    have := ru_line_size hT (ru_rdx h (by omega : k < l.length))
    unfold ru_exp
    rw [ByteArray.size_append]
    omega
theorem ru_head_size {H : Int → ByteArray} (hH : RuH H) {a : ByteArray} {n : Int} (ha : a.size ≤ 1048576) (hn : 0 ≤ n ∧ n ≤ 4294967295) : (ru_head H a n).size ≤ 1050000 := by
  have := (hH n hn).2.2
  rw [ru_head_sz]
  omega
theorem ru_file_size {T H : Int → ByteArray} (hT : RpT T) (hH : RuH H) {f : S46} (h : RuOk f) : (ru_file T H f).size ≤ 65000000 := by
  obtain ⟨h0, h1, h2, h3⟩ := h
  have := ru_head_size hH h0 h1
  have := ru_exp_size hT h3 f.f3.length (Nat.le_refl _)
  unfold ru_file
  rw [ByteArray.size_append]
  omega
theorem ru_all_size {T H : Int → ByteArray} (hT : RpT T) (hH : RuH H) {fs : List S46} (h : ∀ f ∈ fs, RuOk f) : ∀ k : Nat, k ≤ fs.length → (ru_all T H fs k).size ≤ 65000000 * k
  | 0, _ => Nat.zero_le _
  | k + 1, hk => by
    have ih := ru_all_size hT hH h k (by omega)
    have := ru_file_size hT hH (ru_rdf h (by omega : k < fs.length))
    unfold ru_all
    rw [ByteArray.size_append]
    omega
set_option maxRecDepth 100000 in
set_option maxHeartbeats 8000000 in
theorem ru_calls {T H : Int → ByteArray} (hT : RpT T) (hH : RuH H) (w : World) (a0 a1 a2 a3 a4 : Int) (A5 : Option Addr) (n5 c5 : Nat) (A6 : Option Addr) (n6 c6 : Nat) (s7 s8 s9 s10 : Int) (AM : Option Addr) (nM cM : Nat) (AF : Option Addr) (cF : Nat) (fs : List S46) (hF : Kd.C k46 w AF fs.length fs) (hfs : ∀ f ∈ fs, RuOk f) (hfl : fs.length ≤ 20) (AO : Option Addr) (nO cO : Nat) (AT : Option Addr) (nT cT : Nat) :
    Calls Try.prog 15 #[.agg #[.int .u32 a0, .int .u32 a1, .int .u32 a2, .int .u32 a3, .int .u32 a4, .slice A5 n5 c5, .slice A6 n6 c6, .int .u32 s7, .int .u32 s8, .int .u32 s9, .int .u32 s10, .slice AM nM cM, .slice AF fs.length cF, .slice AO nO cO, .slice AT nT cT]] w fun e w' => e = .returned (.string (ru_all T H fs fs.length)) ∧ Below w.heap.size w w' := by
  have HF := Aside0.mk hF; have HFS := Aside0.mk hfs
  have HSZ := Aside0.mk (fun k (h : k ≤ fs.length) => ru_all_size hT hH hfs k h)
  clear hF hfs
  have hfz : (fs.length : Int) ≤ 20 := by omega
  go_enter Try.func15, Try.ntmps15
  go_wp2_with (((with_reducible refine gate_dst (N := 1) rfl ?_); refine box_event ?hg (N := 1) ?hd (cs := #[.int .u32 a0, .int .u32 a1, .int .u32 a2, .int .u32 a3, .int .u32 a4, .slice A5 n5 c5, .slice A6 n6 c6, .int .u32 s7, .int .u32 s8, .int .u32 s9, .int .u32 s10, .slice AM nM cM, .slice AF fs.length cF, .slice AO nO cO, .slice AT nT cT]) (t := 51) ?hr ?_; (case hd => rfl); (case hg => rfl); (case hr => first | (go_simp; done) | (go_simp; rfl)); intro b1 hgx w1 hbox hb; have HB1 := Aside0.mk hb; have HX1 := Aside0.mk hbox; have c12 : (w1.alloc (.cells #[.pointer none, .slice none 0 0] 81)).cell? ⟨b1, 12, none⟩ = some (.slice AF fs.length cF) := pw_cell_below (below_alloc (Below.refl _ _) _) (blk_cell hbox 12); clear hgx hbox hb))
  clear c12
  go_loopg [11] (fs.length + 1) (fun kx v11 wr => ∃ k : Nat, v11 = .int .i64 k ∧ Aside0 (k + kx = fs.length + 1 ∧ k ≤ fs.length) ∧ Aside0 (RbIs w1.heap.size w1.heap.size (ru_all T H fs k) wr) ∧ Aside0 (Below w1.heap.size w1 wr))
  case atStart => exact ⟨0, rfl, ⟨⟨by omega, by omega⟩⟩, ⟨rb_new w1⟩, ⟨below_alloc (Below.refl _ _) _⟩⟩
  case round =>
    obtain ⟨k, rfl, HI, HV, HBWa⟩ := hrel
    have HB := Aside0.mk (below_step HB1.out HBWa.out)
    have HWRa := Aside0.mk HBWa.out.size
    have HLTa := Aside0.mk (rb_lt HV.out)
    by_cases hk : k < fs.length
    · obtain ⟨ad, A2, d2, A3, d3, e, cx0, cx1, cx2, cx3, _, _, hd3, g3⟩ := at_T46 HF.out (k : Int) (by omega) (by omega)
      cases e
      have hok : RuOk (rd_T46 fs (k : Int)) := ru_rdf HFS.out hk
      rw [Int.toNat_natCast] at cx0 cx1 cx2 cx3
      have hnx : ru_all T H fs (k + 1) = ru_all T H fs k ++ ru_file T H (rd_T46 fs (k : Int)) := rfl
      have hss : (ru_all T H fs k).size ≤ 1300000000 := by have := HSZ.out k (by omega); omega
      have hfsz := ru_file_size hT hH hok
      obtain ⟨md, hmd⟩ : ∃ md, rd_T46 fs (k : Int) = md := ⟨_, rfl⟩
      rw [hmd] at cx0 cx1 cx2 cx3 hok hnx g3 hd3 hfsz
      clear hmd
      obtain ⟨f0, f1, f2, f3⟩ := md
      unfold RuOk at hok
      dsimp only at cx0 cx1 cx2 cx3 hok g3 hd3
      obtain ⟨q0, ⟨q1, q1b⟩, q3, q4⟩ := hok
      have hls := ru_head_size hH q0 ⟨q1, q1b⟩
      replace cx0 := pw_cell_below HB.out cx0
      replace cx1 := pw_cell_below HB.out cx1
      replace cx2 := pw_cell_below HB.out cx2
      replace cx3 := pw_cell_below HB.out cx3
      have HNX := Aside0.mk hnx; have HH := Aside0.mk hk; have HSSa := Aside0.mk hss; have HLSa := Aside0.mk hls; have HG3 := Aside0.mk g3; have HQ4 := Aside0.mk q4
      have HES := Aside0.mk (fun j (h : j ≤ f3.length) => ru_exp_size hT q4 j h)
      have y1 := (hH f1 ⟨q1, q1b⟩).2.2
      have z0 : (9223372036854775807 < 7 + f0.size) = False := eq_false (by omega)
      have z1 : (9223372036854775807 < 7 + f0.size + 1) = False := eq_false (by omega)
      have z2 : (9223372036854775807 < 7 + f0.size + 1 + (H f1).size) = False := eq_false (by omega)
      have z3 : (9223372036854775807 < 7 + f0.size + 1 + (H f1).size + 1) = False := eq_false (by omega)
      have k1 : (0 : Int) ≤ (k : Int) := by omega
      have k2 : (k : Int) < (fs.length : Int) := by omega
      have k2b : decide (k < fs.length) = true := decide_eq_true hk
      have k3 : (k : Int) ≤ 20 := by omega
      have q3z : (f3.length : Int) ≤ 60 := by omega
      clear hnx hss hls hfsz hk y1 g3 q4
      obtain ⟨Wa, hW1⟩ : ∃ W1, W1 = wr.alloc (.cells #[.string f0, .int .u32 f1, .slice A2 f2.length d2, .slice A3 f3.length d3] 46) := ⟨_, rfl⟩
      have hB1 : Below wr.heap.size wr Wa := by rw [hW1]; exact below_alloc (Below.refl _ _) _
      obtain ⟨B5, hB5⟩ : ∃ B5, wr.heap.size = B5 := ⟨_, rfl⟩
      have yb : Wa.heap[B5]? = some (.cells #[.string f0, .int .u32 f1, .slice A2 f2.length d2, .slice A3 f3.length d3] 46 (0, 0)) := by rw [hW1, ← hB5]; exact blk_new wr _
      have HWa := Aside0.mk hW1
      have HB5a := Aside0.mk hB5
      have HYa0 := Aside0.mk yb
      have HVa0 := Aside0.mk (RbIs.below HV.out hB1)
      have HDa0 := Aside0.mk hB1
      clear hB1 hW1 yb hB5
      go_wp2
      rw [← HWa.out, HB5a.out]
      clear cx0 cx1 cx2 cx3
      refine wp_region_held_drew (S := fun w' => w'.cell? ⟨B5, 0, none⟩ = some (.string f0) ∧ w'.cell? ⟨B5, 1, none⟩ = some (.int .u32 f1) ∧ w'.cell? ⟨B5, 2, none⟩ = some (.slice A2 f2.length d2) ∧ w'.cell? ⟨B5, 3, none⟩ = some (.slice A3 f3.length d3)) (by kernel_rfl) (show Wa.drew.cell? ⟨B5, 0, none⟩ = some (.string f0) ∧ Wa.drew.cell? ⟨B5, 1, none⟩ = some (.int .u32 f1) ∧ Wa.drew.cell? ⟨B5, 2, none⟩ = some (.slice A2 f2.length d2) ∧ Wa.drew.cell? ⟨B5, 3, none⟩ = some (.slice A3 f3.length d3) from ⟨blk_cell (blk_drew HYa0.out) 0, blk_cell (blk_drew HYa0.out) 1, blk_cell (blk_drew HYa0.out) 2, blk_cell (blk_drew HYa0.out) 3⟩) (fun hHeld => ?_)
      refine C.tk_take (i := 0) (v := ?_) (by kernel_rfl) (by kernel_rfl) (by kernel_rfl) (fun oi hoi => ?_) rfl
      rotate_left
      simp only [List.getElem?_toArray, List.getElem?_cons_succ, List.getElem?_cons_zero] at hoi
      cases hoi
      refine ⟨fun _ _ _ h => h, Or.inl ⟨by rfl, ?_⟩, by assumption, ?_⟩
      · (intro w hSw; (try dsimp only at hSw); go_simp; all_goals with_reducible rfl)
      try simp only [Act.put, List.setIfInBounds_toArray, List.set_cons_zero, List.set_cons_succ]
      refine C.tk_take (i := 1) (v := ?_) (by kernel_rfl) (by kernel_rfl) (by kernel_rfl) (fun oi hoi => ?_) rfl
      rotate_left
      simp only [List.getElem?_toArray, List.getElem?_cons_succ, List.getElem?_cons_zero] at hoi
      cases hoi
      refine ⟨fun _ _ _ h => h, Or.inl ⟨by rfl, ?_⟩, by assumption, ?_⟩
      · (intro w hSw; (try dsimp only at hSw); go_simp; all_goals with_reducible rfl)
      try simp only [Act.put, List.setIfInBounds_toArray, List.set_cons_zero, List.set_cons_succ]
      refine C.tk_take (i := 2) (v := ?_) (by kernel_rfl) (by kernel_rfl) (by kernel_rfl) (fun oi hoi => ?_) rfl
      rotate_left
      simp only [List.getElem?_toArray, List.getElem?_cons_succ, List.getElem?_cons_zero] at hoi
      cases hoi
      refine ⟨fun _ _ _ h => h, Or.inl ⟨by rfl, ?_⟩, by assumption, ?_⟩
      · (intro w hSw; (try dsimp only at hSw); go_simp; all_goals with_reducible rfl)
      try simp only [Act.put, List.setIfInBounds_toArray, List.set_cons_zero, List.set_cons_succ]
      refine C.tk_take (i := 3) (v := ?_) (by kernel_rfl) (by kernel_rfl) (by kernel_rfl) (fun oi hoi => ?_) rfl
      rotate_left
      simp only [List.getElem?_toArray, List.getElem?_cons_succ, List.getElem?_cons_zero] at hoi
      cases hoi
      refine ⟨fun _ _ _ h => h, Or.inl ⟨by rfl, ?_⟩, by assumption, ?_⟩
      · (intro w hSw; (try dsimp only at hSw); go_simp; all_goals with_reducible rfl)
      try simp only [Act.put, List.setIfInBounds_toArray, List.set_cons_zero, List.set_cons_succ]
      refine C.tk_take (i := 4) (v := ?_) (by kernel_rfl) (by kernel_rfl) (by kernel_rfl) (fun oi hoi => ?_) rfl
      rotate_left
      simp only [List.getElem?_toArray, List.getElem?_cons_succ, List.getElem?_cons_zero] at hoi
      cases hoi
      refine ⟨fun _ _ _ h => h, Or.inl ⟨by rfl, ?_⟩, by assumption, ?_⟩
      · (intro w hSw; (try dsimp only at hSw); go_simp; all_goals with_reducible rfl)
      try simp only [Act.put, List.setIfInBounds_toArray, List.set_cons_zero, List.set_cons_succ]
      refine C.tk_take (i := 5) (v := ?_) (by kernel_rfl) (by kernel_rfl) (by kernel_rfl) (fun oi hoi => ?_) rfl
      rotate_left
      simp only [List.getElem?_toArray, List.getElem?_cons_succ, List.getElem?_cons_zero] at hoi
      cases hoi
      refine ⟨fun _ _ _ h => h, Or.inl ⟨by rfl, ?_⟩, by assumption, ?_⟩
      · (intro w hSw; (try dsimp only at hSw); go_simp; all_goals with_reducible rfl)
      try simp only [Act.put, List.setIfInBounds_toArray, List.set_cons_zero, List.set_cons_succ]
      refine wpAnyH_ready (rs := [6]) (by kernel_rfl) (by simp) ?_
      refine AllReadyH.cons rfl (fun K hK => ?_) AllReadyH.nil
      rw [if_pos (by rfl)]
      go_simp
      go_at_call 32
      refine (word_Hex.calls f1 (H f1) _ (hH f1 (by omega)).1).mono ?_
      rintro e ua1 ⟨rfl, hb⟩
      have hS := below_step (below_drew (Below.refl Wa.heap.size Wa)) hb
      have HYa1 := Aside0.mk (blk_below HYa0.out hS)
      have HVa1 := Aside0.mk (RbIs.below HVa0.out hS)
      have HDa1 := Aside0.mk (below_step HDa0.out hS)
      have hSa1 : ua1.cell? ⟨B5, 0, none⟩ = some (.string f0) ∧ ua1.cell? ⟨B5, 1, none⟩ = some (.int .u32 f1) ∧ ua1.cell? ⟨B5, 2, none⟩ = some (.slice A2 f2.length d2) ∧ ua1.cell? ⟨B5, 3, none⟩ = some (.slice A3 f3.length d3) := ⟨blk_cell HYa1.out 0, blk_cell HYa1.out 1, blk_cell HYa1.out 2, blk_cell HYa1.out 3⟩
      clear hb hS
      go_wp2
      refine hK.out _ _ hSa1 (fun hHeld => ?_)
      clear hK
      try simp only [Act.put, List.setIfInBounds_toArray, List.set_cons_zero, List.set_cons_succ]
      refine C.tk_take (i := 7) (v := ?_) (by kernel_rfl) (by kernel_rfl) (by kernel_rfl) (fun oi hoi => ?_) rfl
      rotate_left
      simp only [List.getElem?_toArray, List.getElem?_cons_succ, List.getElem?_cons_zero] at hoi
      cases hoi
      refine ⟨fun _ _ _ h => h, Or.inl ⟨by rfl, ?_⟩, by assumption, ?_⟩
      · (intro w hSw; (try dsimp only at hSw); go_simp; all_goals with_reducible rfl)
      try simp only [Act.put, List.setIfInBounds_toArray, List.set_cons_zero, List.set_cons_succ]
      refine C.tk_take (i := 8) (v := ?_) (by kernel_rfl) (by kernel_rfl) (by kernel_rfl) (fun oi hoi => ?_) rfl
      rotate_left
      simp only [List.getElem?_toArray, List.getElem?_cons_succ, List.getElem?_cons_zero] at hoi
      cases hoi
      refine ⟨fun _ _ _ h => h, Or.inl ⟨by rfl, ?_⟩, by assumption, ?_⟩
      · (intro w hSw; (try dsimp only at hSw); go_simp; all_goals with_reducible rfl)
      try simp only [Act.put, List.setIfInBounds_toArray, List.set_cons_zero, List.set_cons_succ]
      refine wpAnyH_ready (rs := [9]) (by kernel_rfl) (by simp) ?_
      refine AllReadyH.cons rfl (fun K hK => ?_) AllReadyH.nil
      rw [if_pos (by rfl)]
      go_simp
      go_at_call 29
      refine (rb_write _ HVa1.out (by show _ + (ru_head H f0 f1).size ≤ _; have := HLSa.out; have := HSSa.out; omega) (Nat.le_trans HWRa.out HDa1.out.size)).mono ?_
      rintro e ua9 ⟨rfl, h1, hb, hk⟩
      have hk9 := hk _ _ HYa1.out (fun hh => by injection hh with hh; have := HLTa.out; have := HB5a.out; omega) (by intro c fz hh; cases hh)
      have HVa9 := Aside0.mk h1
      have HBa9 := Aside0.mk ((below_then HBWa.out HWRa.out HDa1.out).trans hb)
      have HYYa := Aside0.mk hk9
      have hSa9 : ua9.cell? ⟨B5, 0, none⟩ = some (.string f0) ∧ ua9.cell? ⟨B5, 1, none⟩ = some (.int .u32 f1) ∧ ua9.cell? ⟨B5, 2, none⟩ = some (.slice A2 f2.length d2) ∧ ua9.cell? ⟨B5, 3, none⟩ = some (.slice A3 f3.length d3) := ⟨blk_cell hk9 0, blk_cell hk9 1, blk_cell hk9 2, blk_cell hk9 3⟩
      clear h1 hb hk hk9
      go_wp2
      refine hK.out _ _ hSa9 (fun hHeld => ?_)
      clear hK
      try simp only [Act.put, List.setIfInBounds_toArray, List.set_cons_zero, List.set_cons_succ]
      refine wpAnyH_done (by kernel_rfl) ?_ _
      obtain ⟨_, _, _, ce3⟩ := hSa9
      clear z0 z1 z2 z3
      clear hSa1
      obtain ⟨s1, hs1⟩ : ∃ s1, ru_all T H fs k ++ ru_head H f0 f1 = s1 := ⟨_, rfl⟩
      have HV1 : Aside0 (RbIs w1.heap.size w1.heap.size s1 ua9) := ⟨by rw [← hs1]; exact HVa9.out⟩
      have hs1z : s1.size ≤ 1400000000 := by rw [← hs1, ByteArray.size_append]; have := HSSa.out; have := HLSa.out; omega
      have HS1 := Aside0.mk hs1
      have HS1Z := Aside0.mk hs1z
      clear hs1 hs1z HV
      go_wp2_with fail
      go_loopg [28] (f3.length + 1) (fun kx v28 wq => ∃ j : Nat, v28 = .int .i64 j ∧ Aside0 (j + kx = f3.length + 1 ∧ j ≤ f3.length) ∧ Aside0 (RbIs w1.heap.size w1.heap.size (s1 ++ ru_exp T f3 j) wq) ∧ Aside0 (Below w1.heap.size w1 wq))
      case atStart => exact ⟨0, rfl, ⟨⟨by omega, by omega⟩⟩, ⟨by show RbIs _ _ (s1 ++ ⟨#[]⟩) _; rw [show s1 ++ (⟨#[]⟩ : ByteArray) = s1 from ByteArray.append_empty]; exact HV1.out⟩, HBa9⟩
      case round =>
        clear HV1
        obtain ⟨j, rfl, HJ, HV, HBWb⟩ := hrel
        have HBj := Aside0.mk (below_step HB1.out HBWb.out)
        have HWRb := Aside0.mk HBWb.out.size
        have HLTb := Aside0.mk (rb_lt HV.out)
        by_cases hj : j < f3.length
        · obtain ⟨ax, A4, d4, e, cy0, cy1, cy2, cy3, cy4, _, _⟩ := at_T77 HG3.out (j : Int) (by omega) (by omega)
          cases e
          have hokx : RuOkX (rd_T77 f3 (j : Int)) := ru_rdx HQ4.out hj
          rw [Int.toNat_natCast] at cy0 cy1 cy2 cy3 cy4
          have hnx2 : ru_exp T f3 (j + 1) = ru_exp T f3 j ++ ru_line T (rd_T77 f3 (j : Int)) := rfl
          have hls2 := ru_line_size hT hokx
          obtain ⟨mx, hmx⟩ : ∃ mx, rd_T77 f3 (j : Int) = mx := ⟨_, rfl⟩
          rw [hmx] at cy0 cy1 cy2 cy3 cy4 hokx hnx2 hls2
          clear hmx
          obtain ⟨x0, x1, x2, x3, x4⟩ := mx
          unfold RuOkX at hokx
          dsimp only at cy0 cy1 cy2 cy3 cy4 hokx
          obtain ⟨p0, p1⟩ := hokx
          replace cy0 := pw_cell_below HBj.out cy0
          replace cy1 := pw_cell_below HBj.out cy1
          replace cy2 := pw_cell_below HBj.out cy2
          replace cy3 := pw_cell_below HBj.out cy3
          replace cy4 := pw_cell_below HBj.out cy4
          have hss2 : (s1 ++ ru_exp T f3 j).size ≤ 1500000000 := by rw [ByteArray.size_append]; have := HS1Z.out; have := HES.out j (by omega); omega
          have HNXb := Aside0.mk hnx2; have HHb := Aside0.mk hj; have HSSb := Aside0.mk hss2; have HLSb := Aside0.mk hls2
          obtain ⟨kd, hkd⟩ : ∃ kd, ru_kind x1 = kd := ⟨_, rfl⟩
          have hkz := ru_kind_size x1
          have HKD : Aside0 (report_kind.f x1 = some kd) := ⟨by rw [(ru_kind_eq x1).1, hkd]⟩
          rw [hkd] at hkz
          have HKE : Aside0 (kd = ru_kind x1) := ⟨hkd.symm⟩
          have y2 := (hT (x4.length : Int) (by omega)).2.2
          have z0 : (9223372036854775807 < 2 + kd.size) = False := eq_false (by omega)
          have z1 : (9223372036854775807 < 2 + kd.size + 1) = False := eq_false (by omega)
          have z2 : (9223372036854775807 < 2 + kd.size + 1 + x0.size) = False := eq_false (by omega)
          have z3 : (9223372036854775807 < 2 + kd.size + 1 + x0.size + 1) = False := eq_false (by omega)
          have z4 : (9223372036854775807 < 2 + kd.size + 1 + x0.size + 1 + (T (x4.length : Int)).size) = False := eq_false (by omega)
          have z5 : (9223372036854775807 < 2 + kd.size + 1 + x0.size + 1 + (T (x4.length : Int)).size + 1) = False := eq_false (by omega)
          have j1 : (0 : Int) ≤ (j : Int) := by omega
          have j2 : (j : Int) < (f3.length : Int) := by omega
          have j2b : decide (j < f3.length) = true := decide_eq_true hj
          have j3 : (j : Int) ≤ 60 := by omega
          have p1z : (x4.length : Int) ≤ 1048576 := by omega
          clear hnx2 hss2 hls2 hj y2 hkd hkz
          obtain ⟨Wb, hW1⟩ : ∃ W1, W1 = wr.alloc (.cells #[.string x0, .int .i64 x1, .int .i64 x2, .int .i32 x3, .slice A4 x4.length d4] 77) := ⟨_, rfl⟩
          have hB1 : Below wr.heap.size wr Wb := by rw [hW1]; exact below_alloc (Below.refl _ _) _
          obtain ⟨B7, hB5⟩ : ∃ B5, wr.heap.size = B5 := ⟨_, rfl⟩
          have yb : Wb.heap[B7]? = some (.cells #[.string x0, .int .i64 x1, .int .i64 x2, .int .i32 x3, .slice A4 x4.length d4] 77 (0, 0)) := by rw [hW1, ← hB5]; exact blk_new wr _
          have HWb := Aside0.mk hW1
          have HB5b := Aside0.mk hB5
          have HYb0 := Aside0.mk yb
          have HVb0 := Aside0.mk (RbIs.below HV.out hB1)
          have HDb0 := Aside0.mk hB1
          clear hB1 hW1 yb hB5
          go_wp2
          rw [← HWb.out, HB5b.out]
          clear cy0 cy1 cy2 cy3 cy4
          refine wp_region_held_drew (S := fun w' => w'.cell? ⟨B7, 0, none⟩ = some (.string x0) ∧ w'.cell? ⟨B7, 1, none⟩ = some (.int .i64 x1) ∧ w'.cell? ⟨B7, 2, none⟩ = some (.int .i64 x2) ∧ w'.cell? ⟨B7, 3, none⟩ = some (.int .i32 x3) ∧ w'.cell? ⟨B7, 4, none⟩ = some (.slice A4 x4.length d4)) (by kernel_rfl) (show Wb.drew.cell? ⟨B7, 0, none⟩ = some (.string x0) ∧ Wb.drew.cell? ⟨B7, 1, none⟩ = some (.int .i64 x1) ∧ Wb.drew.cell? ⟨B7, 2, none⟩ = some (.int .i64 x2) ∧ Wb.drew.cell? ⟨B7, 3, none⟩ = some (.int .i32 x3) ∧ Wb.drew.cell? ⟨B7, 4, none⟩ = some (.slice A4 x4.length d4) from ⟨blk_cell (blk_drew HYb0.out) 0, blk_cell (blk_drew HYb0.out) 1, blk_cell (blk_drew HYb0.out) 2, blk_cell (blk_drew HYb0.out) 3, blk_cell (blk_drew HYb0.out) 4⟩) (fun hHeld => ?_)
          refine C.tk_take (i := 0) (v := ?_) (by kernel_rfl) (by kernel_rfl) (by kernel_rfl) (fun oi hoi => ?_) rfl
          rotate_left
          simp only [List.getElem?_toArray, List.getElem?_cons_succ, List.getElem?_cons_zero] at hoi
          cases hoi
          refine ⟨fun _ _ _ h => h, Or.inl ⟨by rfl, ?_⟩, by assumption, ?_⟩
          · (intro w hSw; (try dsimp only at hSw); go_simp; all_goals with_reducible rfl)
          try simp only [Act.put, List.setIfInBounds_toArray, List.set_cons_zero, List.set_cons_succ]
          refine C.tk_take (i := 1) (v := ?_) (by kernel_rfl) (by kernel_rfl) (by kernel_rfl) (fun oi hoi => ?_) rfl
          rotate_left
          simp only [List.getElem?_toArray, List.getElem?_cons_succ, List.getElem?_cons_zero] at hoi
          cases hoi
          refine ⟨fun _ _ _ h => h, Or.inl ⟨by rfl, ?_⟩, by assumption, ?_⟩
          · (intro w hSw; (try dsimp only at hSw); go_simp; all_goals with_reducible rfl)
          try simp only [Act.put, List.setIfInBounds_toArray, List.set_cons_zero, List.set_cons_succ]
          refine C.tk_take (i := 5) (v := ?_) (by kernel_rfl) (by kernel_rfl) (by kernel_rfl) (fun oi hoi => ?_) rfl
          rotate_left
          simp only [List.getElem?_toArray, List.getElem?_cons_succ, List.getElem?_cons_zero] at hoi
          cases hoi
          refine ⟨fun _ _ _ h => h, Or.inl ⟨by rfl, ?_⟩, by assumption, ?_⟩
          · (intro w hSw; (try dsimp only at hSw); go_simp; all_goals with_reducible rfl)
          try simp only [Act.put, List.setIfInBounds_toArray, List.set_cons_zero, List.set_cons_succ]
          refine C.tk_take (i := 6) (v := ?_) (by kernel_rfl) (by kernel_rfl) (by kernel_rfl) (fun oi hoi => ?_) rfl
          rotate_left
          simp only [List.getElem?_toArray, List.getElem?_cons_succ, List.getElem?_cons_zero] at hoi
          cases hoi
          refine ⟨fun _ _ _ h => h, Or.inl ⟨by rfl, ?_⟩, by assumption, ?_⟩
          · (intro w hSw; (try dsimp only at hSw); go_simp; all_goals with_reducible rfl)
          try simp only [Act.put, List.setIfInBounds_toArray, List.set_cons_zero, List.set_cons_succ]
          refine C.tk_take (i := 9) (v := ?_) (by kernel_rfl) (by kernel_rfl) (by kernel_rfl) (fun oi hoi => ?_) rfl
          rotate_left
          simp only [List.getElem?_toArray, List.getElem?_cons_succ, List.getElem?_cons_zero] at hoi
          cases hoi
          refine ⟨fun _ _ _ h => h, Or.inl ⟨by rfl, ?_⟩, by assumption, ?_⟩
          · (intro w hSw; (try dsimp only at hSw); go_simp; all_goals with_reducible rfl)
          try simp only [Act.put, List.setIfInBounds_toArray, List.set_cons_zero, List.set_cons_succ]
          refine C.tk_take (i := 10) (v := ?_) (by kernel_rfl) (by kernel_rfl) (by kernel_rfl) (fun oi hoi => ?_) rfl
          rotate_left
          simp only [List.getElem?_toArray, List.getElem?_cons_succ, List.getElem?_cons_zero] at hoi
          cases hoi
          refine ⟨fun _ _ _ h => h, Or.inl ⟨by rfl, ?_⟩, by assumption, ?_⟩
          · (intro w hSw; (try dsimp only at hSw); go_simp; all_goals with_reducible rfl)
          try simp only [Act.put, List.setIfInBounds_toArray, List.set_cons_zero, List.set_cons_succ]
          refine C.tk_take (i := 11) (v := ?_) (by kernel_rfl) (by kernel_rfl) (by kernel_rfl) (fun oi hoi => ?_) rfl
          rotate_left
          simp only [List.getElem?_toArray, List.getElem?_cons_succ, List.getElem?_cons_zero] at hoi
          cases hoi
          refine ⟨fun _ _ _ h => h, Or.inl ⟨by rfl, ?_⟩, by assumption, ?_⟩
          · (intro w hSw; (try dsimp only at hSw); go_simp; all_goals with_reducible rfl)
          try simp only [Act.put, List.setIfInBounds_toArray, List.set_cons_zero, List.set_cons_succ]
          refine wpAnyH_ready (rs := [2]) (by kernel_rfl) (by simp) ?_
          refine AllReadyH.cons rfl (fun K hK => ?_) AllReadyH.nil
          rw [if_pos (by rfl)]
          go_simp
          go_at_call 33
          refine (report_kind.calls x1 kd _ HKD.out).mono ?_
          rintro e ub1 ⟨rfl, hb⟩
          have hS := below_step (below_drew (Below.refl Wb.heap.size Wb)) hb.below
          have HYb1 := Aside0.mk (blk_below HYb0.out hS)
          have HVb1 := Aside0.mk (RbIs.below HVb0.out hS)
          have HDb1 := Aside0.mk (below_step HDb0.out hS)
          have hSb1 : ub1.cell? ⟨B7, 0, none⟩ = some (.string x0) ∧ ub1.cell? ⟨B7, 1, none⟩ = some (.int .i64 x1) ∧ ub1.cell? ⟨B7, 2, none⟩ = some (.int .i64 x2) ∧ ub1.cell? ⟨B7, 3, none⟩ = some (.int .i32 x3) ∧ ub1.cell? ⟨B7, 4, none⟩ = some (.slice A4 x4.length d4) := ⟨blk_cell HYb1.out 0, blk_cell HYb1.out 1, blk_cell HYb1.out 2, blk_cell HYb1.out 3, blk_cell HYb1.out 4⟩
          clear hb hS
          go_wp2
          refine hK.out _ _ hSb1 (fun hHeld => ?_)
          clear hK
          try simp only [Act.put, List.setIfInBounds_toArray, List.set_cons_zero, List.set_cons_succ]
          refine C.tk_take (i := 3) (v := ?_) (by kernel_rfl) (by kernel_rfl) (by kernel_rfl) (fun oi hoi => ?_) rfl
          rotate_left
          simp only [List.getElem?_toArray, List.getElem?_cons_succ, List.getElem?_cons_zero] at hoi
          cases hoi
          refine ⟨fun _ _ _ h => h, Or.inl ⟨by rfl, ?_⟩, by assumption, ?_⟩
          · (intro w hSw; (try dsimp only at hSw); go_simp; all_goals with_reducible rfl)
          try simp only [Act.put, List.setIfInBounds_toArray, List.set_cons_zero, List.set_cons_succ]
          refine C.tk_take (i := 4) (v := ?_) (by kernel_rfl) (by kernel_rfl) (by kernel_rfl) (fun oi hoi => ?_) rfl
          rotate_left
          simp only [List.getElem?_toArray, List.getElem?_cons_succ, List.getElem?_cons_zero] at hoi
          cases hoi
          refine ⟨fun _ _ _ h => h, Or.inl ⟨by rfl, ?_⟩, by assumption, ?_⟩
          · (intro w hSw; (try dsimp only at hSw); go_simp; all_goals with_reducible rfl)
          try simp only [Act.put, List.setIfInBounds_toArray, List.set_cons_zero, List.set_cons_succ]
          refine C.tk_take (i := 7) (v := ?_) (by kernel_rfl) (by kernel_rfl) (by kernel_rfl) (fun oi hoi => ?_) rfl
          rotate_left
          simp only [List.getElem?_toArray, List.getElem?_cons_succ, List.getElem?_cons_zero] at hoi
          cases hoi
          refine ⟨fun _ _ _ h => h, Or.inl ⟨by rfl, ?_⟩, by assumption, ?_⟩
          · (intro w hSw; (try dsimp only at hSw); go_simp; all_goals with_reducible rfl)
          try simp only [Act.put, List.setIfInBounds_toArray, List.set_cons_zero, List.set_cons_succ]
          refine C.tk_take (i := 8) (v := ?_) (by kernel_rfl) (by kernel_rfl) (by kernel_rfl) (fun oi hoi => ?_) rfl
          rotate_left
          simp only [List.getElem?_toArray, List.getElem?_cons_succ, List.getElem?_cons_zero] at hoi
          cases hoi
          refine ⟨fun _ _ _ h => h, Or.inl ⟨by rfl, ?_⟩, by assumption, ?_⟩
          · (intro w hSw; (try dsimp only at hSw); go_simp; all_goals with_reducible rfl)
          try simp only [Act.put, List.setIfInBounds_toArray, List.set_cons_zero, List.set_cons_succ]
          refine wpAnyH_ready (rs := [12]) (by kernel_rfl) (by simp) ?_
          refine AllReadyH.cons rfl (fun K hK => ?_) AllReadyH.nil
          rw [if_pos (by rfl)]
          go_simp
          go_at_call 18
          refine (word_Text.calls (x4.length : Int) (T (x4.length : Int)) _ (hT (x4.length : Int) (by omega)).1).mono ?_
          rintro e ub2 ⟨rfl, hb⟩
          have hS := hb
          have HYb2 := Aside0.mk (blk_below HYb1.out hS)
          have HVb2 := Aside0.mk (RbIs.below HVb1.out hS)
          have HDb2 := Aside0.mk (below_step HDb1.out hS)
          have hSb2 : ub2.cell? ⟨B7, 0, none⟩ = some (.string x0) ∧ ub2.cell? ⟨B7, 1, none⟩ = some (.int .i64 x1) ∧ ub2.cell? ⟨B7, 2, none⟩ = some (.int .i64 x2) ∧ ub2.cell? ⟨B7, 3, none⟩ = some (.int .i32 x3) ∧ ub2.cell? ⟨B7, 4, none⟩ = some (.slice A4 x4.length d4) := ⟨blk_cell HYb2.out 0, blk_cell HYb2.out 1, blk_cell HYb2.out 2, blk_cell HYb2.out 3, blk_cell HYb2.out 4⟩
          clear hb hS
          go_wp2
          refine hK.out _ _ hSb2 (fun hHeld => ?_)
          clear hK
          try simp only [Act.put, List.setIfInBounds_toArray, List.set_cons_zero, List.set_cons_succ]
          refine C.tk_take (i := 13) (v := ?_) (by kernel_rfl) (by kernel_rfl) (by kernel_rfl) (fun oi hoi => ?_) rfl
          rotate_left
          simp only [List.getElem?_toArray, List.getElem?_cons_succ, List.getElem?_cons_zero] at hoi
          cases hoi
          refine ⟨fun _ _ _ h => h, Or.inl ⟨by rfl, ?_⟩, by assumption, ?_⟩
          · (intro w hSw; (try dsimp only at hSw); go_simp; all_goals with_reducible rfl)
          try simp only [Act.put, List.setIfInBounds_toArray, List.set_cons_zero, List.set_cons_succ]
          refine C.tk_take (i := 14) (v := ?_) (by kernel_rfl) (by kernel_rfl) (by kernel_rfl) (fun oi hoi => ?_) rfl
          rotate_left
          simp only [List.getElem?_toArray, List.getElem?_cons_succ, List.getElem?_cons_zero] at hoi
          cases hoi
          refine ⟨fun _ _ _ h => h, Or.inl ⟨by rfl, ?_⟩, by assumption, ?_⟩
          · (intro w hSw; (try dsimp only at hSw); go_simp; all_goals with_reducible rfl)
          try simp only [Act.put, List.setIfInBounds_toArray, List.set_cons_zero, List.set_cons_succ]
          refine wpAnyH_ready (rs := [15]) (by kernel_rfl) (by simp) ?_
          refine AllReadyH.cons rfl (fun K hK => ?_) AllReadyH.nil
          rw [if_pos (by rfl)]
          go_simp
          go_at_call 29
          refine (rb_write _ HVb2.out (by rw [HKE.out]; show _ + (ru_line T ⟨x0, x1, x2, x3, x4⟩).size ≤ _; have := HLSb.out; have := HSSb.out; omega) (Nat.le_trans HWRb.out HDb2.out.size)).mono ?_
          rintro e ub9 ⟨rfl, h1, hb, hk⟩
          have hk9 := hk _ _ HYb2.out (fun hh => by injection hh with hh; have := HLTb.out; have := HB5b.out; omega) (by intro c fz hh; cases hh)
          have HVb9 := Aside0.mk h1
          have HBb9 := Aside0.mk ((below_then HBWb.out HWRb.out HDb2.out).trans hb)
          have HYYb := Aside0.mk hk9
          have hSb9 : ub9.cell? ⟨B7, 0, none⟩ = some (.string x0) ∧ ub9.cell? ⟨B7, 1, none⟩ = some (.int .i64 x1) ∧ ub9.cell? ⟨B7, 2, none⟩ = some (.int .i64 x2) ∧ ub9.cell? ⟨B7, 3, none⟩ = some (.int .i32 x3) ∧ ub9.cell? ⟨B7, 4, none⟩ = some (.slice A4 x4.length d4) := ⟨blk_cell hk9 0, blk_cell hk9 1, blk_cell hk9 2, blk_cell hk9 3, blk_cell hk9 4⟩
          clear h1 hb hk hk9
          go_wp2
          refine hK.out _ _ hSb9 (fun hHeld => ?_)
          clear hK
          try simp only [Act.put, List.setIfInBounds_toArray, List.set_cons_zero, List.set_cons_succ]
          refine wpAnyH_done (by kernel_rfl) ?_ _
          go_wp2
          go_roundg (f3.length - j)
          case measure => have := HJ.out; have := HHb.out; omega
          case rel => exact ⟨j + 1, (by first | rfl | (simp; done)), ⟨⟨by have := HJ.out; have := HHb.out; omega, by have := HHb.out; omega⟩⟩, ⟨by rw [HNXb.out, ← ByteArray.append_assoc]; have := HVb9.out; rw [HKE.out] at this; exact this⟩, HBb9⟩
        · have hje : j = f3.length := by have := HJ.out; omega
          have j2 : ¬ ((j : Int) < (f3.length : Int)) := by omega
          have j2b : decide (j < f3.length) = false := decide_eq_false hj
          have HJE := Aside0.mk hje
          clear hj hje
          go_wp2
          go_roundg (fs.length - k)
          case measure => have := HI.out; have := HH.out; omega
          case rel => exact ⟨k + 1, (by first | rfl | (simp; done)), ⟨⟨by have := HI.out; have := HH.out; omega, by have := HH.out; omega⟩⟩, ⟨by
            rw [HNX.out]
            show RbIs _ _ (ru_all T H fs k ++ (ru_head H f0 f1 ++ ru_exp T f3 f3.length)) _
            rw [← ByteArray.append_assoc, HS1.out, ← HJE.out]
            exact HV.out⟩, HBWb⟩
    · have hke : k = fs.length := by have := HI.out; omega
      subst hke
      have k2 : ¬ ((fs.length : Int) < (fs.length : Int)) := by omega
      have k2b : decide (fs.length < fs.length) = false := decide_eq_false (by omega)
      clear hk
      go_wp2_with (go_at_call 30; refine (rb_string HV.out HBWa.out.size).mono ?_; rintro e w9 ⟨rfl, hb⟩; have HB10 := Aside0.mk (HBWa.out.trans hb); clear hb)
      go_ret
      exact ⟨rfl, below_step HB1.out HB10.out⟩

end Go.Proofs.Ytmebogkhdbbbbaa.P

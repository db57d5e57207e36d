-- Written by a program of this session (wip/tools/hp.py) out of the translation.
import Derived.Test.YtmebogkhdbbbbaaPx0
namespace Go.Proofs.Ytmebogkhdbbbbaa.P
open Go.RowKit Go.Proofs.YtmebogkhdbbbbaaW.PrintWords Go.Proofs.YtmebogkhdbbbbaaW.PrintLast Go.Proofs.YtmebogkhdbbbbaaW.PrintMore
attribute [local go_sem] max2_int min2_int max_two min_two max_three min_three max_four min_four   -- for this text's walks alone
set_option linter.unusedVariables false
set_option linter.unusedSimpArgs false

/-! ### place_New: function 19 -/
/-- Where the lines begin, as far as the first so many bytes tell. -/
def place_sts (s : ByteArray) : Nat → List Int
  | 0 => [0]
  | n + 1 => if bt s (n : Int) = 10 then place_sts s n ++ [(n : Int) + 1] else place_sts s n
theorem place_sts_len (s : ByteArray) : ∀ n, 1 ≤ (place_sts s n).length ∧ (place_sts s n).length ≤ n + 1
  | 0 => ⟨Nat.le_refl _, Nat.le_refl _⟩
  | n + 1 => by
    have ih := place_sts_len s n
    unfold place_sts
    by_cases h : bt s (n : Int) = 10
    · rw [if_pos h]; simp; omega
    · rw [if_neg h]; omega
theorem place_decode (s : ByteArray) (pos : Nat) (h : pos < s.size) : 1 ≤ (Utf8.decode s pos).2 ∧ (pos + (Utf8.decode s pos).2 ≤ s.size ∧ ∀ j : Nat, 1 ≤ j → j < (Utf8.decode s pos).2 → bt s ((pos + j : Nat) : Int) ≠ 10) ∧ (((Utf8.decode s pos).1 : Int) = 10 ↔ bt s (pos : Int) = 10) := by
  have hb : bt s (pos : Int) = ((s[pos]'h).toNat : Int) := by unfold bt; simp [h]
  by_cases ha : (s[pos]'h).toNat < 128
  · rw [decode_ascii s pos h ha, hb]
    exact ⟨Nat.le_refl _, ⟨by omega, fun j h1 h2 => by omega⟩, Iff.rfl⟩
  · have hd := decode_high s pos h (by omega)
    refine ⟨hd.2, ?_, ⟨fun e => by omega, fun e => by omega⟩⟩
    have hcont : ∀ j : Nat, (decide (pos + j < s.size) && (s.get! (pos + j)).toNat / 64 == 2) = true → pos + j < s.size ∧ bt s ((pos + j : Nat) : Int) ≠ 10 := by
      intro j hj
      rw [Bool.and_eq_true, decide_eq_true_eq, beq_iff_eq] at hj
      refine ⟨hj.1, ?_⟩
      have e : s.get! (pos + j) = s[pos + j]'hj.1 := get_at s (pos + j) hj.1
      have e2 : bt s ((pos + j : Nat) : Int) = ((s[pos + j]'hj.1).toNat : Int) := by unfold bt; rw [Int.toNat_natCast]; simp [hj.1]
      rw [e2]
      rw [e] at hj
      omega
    have one : pos + 1 ≤ s.size ∧ ∀ j : Nat, 1 ≤ j → j < 1 → bt s ((pos + j : Nat) : Int) ≠ 10 := ⟨by omega, fun j h1 h2 => by omega⟩
    have more : ∀ n : Nat, 1 ≤ n → (∀ j, 1 ≤ j → j < n + 1 → (decide (pos + j < s.size) && (s.get! (pos + j)).toNat / 64 == 2) = true) → pos + (n + 1) ≤ s.size ∧ ∀ j : Nat, 1 ≤ j → j < n + 1 → bt s ((pos + j : Nat) : Int) ≠ 10 :=
      fun n hn hx => ⟨by have := (hcont n (hx n hn (by omega))).1; omega, fun j h1 h2 => (hcont j (hx j h1 h2)).2⟩
    unfold Utf8.decode
    simp only
    split
    · exact one
    split
    · rename_i h2
      split
      · refine more 1 (by omega) (fun j h3 h4 => ?_)
        obtain rfl : j = 1 := by omega
        simp only [Bool.and_eq_true] at h2 ⊢
        exact h2.2
      · exact one
    split
    · rename_i h2
      split
      · refine more 2 (by omega) (fun j h3 h4 => ?_)
        simp only [Bool.and_eq_true] at h2 ⊢
        obtain rfl | rfl : j = 1 ∨ j = 2 := by omega
        · exact h2.1.2
        · exact h2.2
      · exact one
    split
    · rename_i h2
      split
      · refine more 3 (by omega) (fun j h3 h4 => ?_)
        simp only [Bool.and_eq_true] at h2 ⊢
        obtain rfl | rfl | rfl : j = 1 ∨ j = 2 ∨ j = 3 := by omega
        · exact h2.1.1.2
        · exact h2.1.2
        · exact h2.2
      · exact one
    · exact one
theorem place_sts_over (s : ByteArray) (pos d : Nat) (h : ∀ j : Nat, 1 ≤ j → j < d → bt s ((pos + j : Nat) : Int) ≠ 10) (hd : 1 ≤ d) : place_sts s (pos + d) = place_sts s (pos + 1) := by
  induction d with
  | zero => omega
  | succ d ih =>
    by_cases h0 : d = 0
    · subst h0; rfl
    · rw [← ih (fun j h1 h2 => h j h1 (by omega)) (by omega)]
      show place_sts s (pos + d + 1) = _
      rw [place_sts, if_neg (h d (by omega) (by omega))]
/-- An index at g of a text whose lines begin there. -/
def place_Is (w : World) (g : Nat) (s : ByteArray) (L : List Int) : Prop :=
  ∃ A c, w.heap[g]? = some (.cells #[.string s, .slice A L.length c] 94 (0, 0)) ∧ L.length ≤ c ∧ Kd.C (Kd.int .i64) w A L.length L
theorem place_Is.below {w w' : World} {g : Nat} {s : ByteArray} {L : List Int} (h : place_Is w g s L) (hb : Below w.heap.size w w') : place_Is w' g s L := by
  obtain ⟨A, c, h1, h2, h3⟩ := h
  exact ⟨A, c, (hb.block g (blk_lt h1)).trans h1, h2, Kd.C_below h3 hb⟩
theorem place_info : (Try.prog.info? 3).map (fun i => (i.zero, i.size, i.bytes)) = some (some (.int .i64 0), 1, 8) := by kernel_rfl
theorem place_decode10 (s : ByteArray) (pos : Nat) (h : pos < s.size) (hb : bt s (pos : Int) = 10) : Utf8.decode s pos = (10, 1) := by
  have e : bt s (pos : Int) = ((s[pos]'h).toNat : Int) := by unfold bt; simp [h]
  rw [e] at hb
  rw [decode_ascii s pos h (by omega)]
  congr 1
  omega
/-- What holds at the head of New's loop, before the byte pos. -/
def place_New.At (w wr : World) (g : Nat) (s : ByteArray) (pos : Nat) : Prop :=
  ∃ A c, wr.heap[g]? = some (.cells #[.string s, .slice A (place_sts s pos).length c] 94 (0, 0)) ∧ Kd.R (Kd.int .i64) 3 wr w.heap.size (fun k => k ≠ g + 1) (.slice A (place_sts s pos).length c) (place_sts s pos) ∧ Below w.heap.size w wr ∧ wr.heap[g + 1]? = some (.stringIter s pos) ∧ pos ≤ s.size ∧ w.heap.size ≤ g
theorem place_New.At.moved {w wr : World} {g : Nat} {s : ByteArray} {pos : Nat} (h : place_New.At w wr g s pos) (hp : pos < s.size) (n : Nat) : ∃ A c, (wr.iterAt (g + 1) s n).heap[g]? = some (.cells #[.string s, .slice A (place_sts s pos).length c] 94 (0, 0)) ∧ Kd.R (Kd.int .i64) 3 (wr.iterAt (g + 1) s n) w.heap.size (fun k => k ≠ g + 1) (.slice A (place_sts s pos).length c) (place_sts s pos) ∧ Below w.heap.size w (wr.iterAt (g + 1) s n) ∧ (wr.iterAt (g + 1) s n).heap[g + 1]? = some (.stringIter s n) ∧ w.heap.size ≤ g := by
  obtain ⟨A, c, h1, h2, h3, h4, h5, h6⟩ := h
  exact ⟨A, c, (Lib.iterAt_other wr (g + 1) g s n (by omega)).trans h1, Kd.R_step h2 (fun k hk _ => Lib.iterAt_other wr (g + 1) k s n hk), Lib.below_iterAt h3 (by omega) s n, Lib.iterAt_heap wr (g + 1) s pos n h4, h6⟩
theorem place_New.At.put {w W w1 : World} {g : Nat} {s : ByteArray} {pos : Nat} {v v1 u : Value} {L : List Int} (hg : W.heap[g]? = some (.cells #[.string s, u] 94 (0, 0))) (hit : W.heap[g + 1]? = some (.stringIter s (pos + 1))) (hp : pos < s.size) (hgb : w.heap.size ≤ g)
    (hL : L = place_sts s (pos + 1)) (ho : Kd.R (Kd.int .i64) 3 w1 w.heap.size (fun k => k ≠ g + 1) v1 L) (hb : Below w.heap.size w w1) (hgr : W.grownBy w1 v.ownBlock) (hv : v.ownBlock ≠ some g) (hv2 : v.ownBlock ≠ some (g + 1)) : place_New.At w (w1.setCell ⟨g, 1, none⟩ v1) g s (pos + 1) := by
  subst hL
  obtain ⟨A, c, rfl⟩ := Kd.R_slice ho
  have h1 := blk_grown hg hgr (fun e => hv e.symm)
  refine ⟨A, c, blk_put h1 1 _ rfl, Kd.R_set ho h1 (by decide) 1 _, below_set hb hgb, ?_, by omega, hgb⟩
  rw [Below.heap_setCell w1 ⟨g, 1, none⟩ _ (g + 1) (by simp)]
  exact blk_grown hit hgr (fun e => hv2 e.symm)
set_option maxHeartbeats 4000000 in
set_option maxRecDepth 100000 in
theorem place_New.whole (s : ByteArray) (w : World) (hs : s.size ≤ 1000000) :
    Calls Try.prog 19 #[.string s] w fun e w' => ∃ g, e = .returned (.pointer (some ⟨g, 0, none⟩)) ∧ place_Is w' g s (place_sts s s.size) ∧ Below w.heap.size w w' ∧ w.heap.size ≤ g := by
  go_enter Try.func19, Try.ntmps19
  go_wp2_with ((with_reducible refine gate_dst (N := 7) rfl ?_); refine Kd.R_lit (Kd.int .i64) (w0 := w) w.heap.size 3 ?hg (N := 7) ?hd (xs := ([0] : List Int)) (inner := [.int .i64 0]) (ok := fun _ => True) (okp := fun _ => True) ?hr ?hp (fun _ hk => hk) trivial (Below.refl _ _) (Nat.le_refl _) (by simp) ?_; (case hd => rfl); (case hg => rfl); (case hr => first | (go_simp; done) | (go_simp; rfl)); (case hp => exact (Reps.one (show Kd.M (Kd.int .i64) _ _ _ (0 : Int) [.int .i64 0] from rfl) (Reps.none _ _))); intro v7 w1 ho hb hg_ hnew_; clear hg_ hnew_; obtain ⟨A7, c7, rfl⟩ := Kd.R_slice ho; have HO := Aside0.mk ho; have HB := Aside0.mk hb; clear ho hb)
  go_loopg [] (s.size + 1) (fun kx wr => ∃ pos : Nat, Aside0 (place_New.At w wr w1.heap.size s pos ∧ s.size + 1 ≤ pos + kx))
  case atStart =>
    refine ⟨0, ⟨⟨A7, c7, ?_, ?_, ?_, ?_, Nat.zero_le _, HB.out.size⟩, by omega⟩⟩
    · exact blk_alloc (blk_new w1 _) _
    · exact Kd.R_alloc (Kd.R_alloc (Kd.R_mono (Kd.R_elderB HO.out (w1.heap.size + 1) (by omega)) (fun _ h => h.2)) _) _
    · exact below_alloc (below_alloc HB.out _) _
    · have h := World.iter_heap (w1.alloc (Obj.cells #[Value.string s, Value.slice A7 1 c7] 94)) s 0
      rw [show (w1.alloc (Obj.cells #[Value.string s, Value.slice A7 1 c7] 94)).heap.size = w1.heap.size + 1 by simp] at h
      exact h
  case round =>
    obtain ⟨pos, I⟩ := hrel
    by_cases hp : pos < s.size
    · have hit := I.out.1.choose_spec.choose_spec.2.2.2.1
      have hnx : ∀ ty, (Instr.next (.pointer (some ⟨w1.heap.size + 1, 0, none⟩)) true ty).run Try.prog wr = _ := fun ty => Lib.run_next_any_at wr (w1.heap.size + 1) s pos ty hit hp
      obtain ⟨A, c, hg1, hR1, hB1, hit1, hgb⟩ := I.out.1.moved hp (pos + (Utf8.decode s pos).2)
      have hd := place_decode s pos hp
      generalize hW : wr.iterAt (w1.heap.size + 1) s (pos + (Utf8.decode s pos).2) = W1 at hnx hg1 hR1 hB1 hit1
      clear hit hW
      have hpb : (pos : Int) ≤ 1000000 := by omega
      by_cases hc : bt s (pos : Int) = 10
      · have h10 := place_decode10 s pos hp hc
        have hnx2 : ∀ ty, (Instr.next (.pointer (some ⟨w1.heap.size + 1, 0, none⟩)) true ty).run Try.prog wr = .ok (.tuple #[.bool true, .int .i64 pos, .int .i32 10]) W1 := fun ty => by have h := hnx ty; rw [h10] at h; exact h
        rw [h10] at hit1
        have hcg := blk_cell hg1 1
        have hsl := place_sts_len s pos
        have hnew : place_sts s pos ++ [(pos : Int) + 1] = place_sts s (pos + 1) := by rw [place_sts, if_pos hc]
        have HX := Aside0.mk (show W1.heap[w1.heap.size]? = some (.cells #[.string s, .slice A (place_sts s pos).length c] 94 (0, 0)) ∧ W1.heap[w1.heap.size + 1]? = some (.stringIter s (pos + 1)) ∧ Kd.R (Kd.int .i64) 3 W1 w.heap.size (fun k => k ≠ w1.heap.size + 1) (.slice A (place_sts s pos).length c) (place_sts s pos) ∧ Below w.heap.size w W1 ∧ place_sts s pos ++ [(pos : Int) + 1] = place_sts s (pos + 1) ∧ (place_sts s pos).length ≤ 1000001 from ⟨hg1, hit1, hR1, hB1, hnew, by omega⟩)
        clear hg1 hit1 hR1 hB1 hnew hnx hd hsl h10 hc
        simp at hcg
        go_wp2_with ((with_reducible refine gate_builtin (b := .append) (xs := #[.tmp 22, .tmp 25]) rfl ?_); at_builtin; refine Kd.R_append (Kd.int .i64) (w0 := w) w.heap.size rfl (.tmp 22) (.tmp 25) 41 3 (.int .i64 0) 8 rfl Try.underlying41 place_info rfl (by decide) (by omega) (.slice A (place_sts s pos).length c) (place_sts s pos) ((pos : Int) + 1) [.int .i64 ((pos : Int) + 1)] (fun k => k ≠ w1.heap.size + 1) (fun _ => False) rfl rfl ?aP (fun _ hk => hk.elim) ?aF ?aO ?aB ?aS ?aL ?_; (case aP => exact rfl); (case aB => exact HX.out.2.2.2.1); (case aF => exact fun k hk => by have := blk_lt HX.out.2.1; omega); (case aO => exact HX.out.2.2.1); (case aS => exact HX.out.2.2.2.1.size); (case aL => have := HX.out.2.2.2.2.2; omega); intro v9 w9 ho hb hgr hat; obtain ⟨A9, c9, rfl⟩ := Kd.R_slice ho; have hg9 := blk_grown HX.out.1 hgr (Kd.R_ne HX.out.2.2.1 HX.out.1 (by decide)); have hc9 := blk_cell hg9 1; have hf9 := blk_frozen hg9 1; have P := Aside0.mk (place_New.At.put HX.out.1 HX.out.2.1 hp hgb HX.out.2.2.2.2.1 ho hb hgr (fun e => Kd.R_ne HX.out.2.2.1 HX.out.1 (by decide) e.symm) (fun e => HX.out.2.2.1.1 _ e rfl)); clear ho hb hgr hat hg9; simp at hc9)
        go_roundg (gk - 1)
        case measure => have := I.out.2; omega
        case rel => exact ⟨pos + 1, ⟨by have h := P.out; simp only [List.length_append, List.length_singleton] at h; exact h, by have := I.out.2; omega⟩⟩
      · have hrb : (((Utf8.decode s pos).1 : Int) == 10) = false := beq_eq_false_iff_ne.mpr (fun e => hc (hd.2.2.mp e))
        have hov := place_sts_over s pos (Utf8.decode s pos).2 hd.2.1.2 hd.1
        have hst : place_sts s (pos + (Utf8.decode s pos).2) = place_sts s pos := by rw [hov, place_sts, if_neg hc]
        have HX : Aside0 (place_New.At w W1 w1.heap.size s (pos + (Utf8.decode s pos).2)) := ⟨⟨A, c, by rw [hst]; exact hg1, by rw [hst]; exact hR1, hB1, hit1, hd.2.1.1, hgb⟩⟩
        have HD := Aside0.mk hd
        clear hd hov hst hg1 hit1 hR1 hB1 hc
        generalize Utf8.decode s pos = dd at *
        go_wp2
        go_roundg (gk - 1)
        case measure => have := I.out.2; omega
        case rel => exact ⟨pos + dd.2, ⟨HX.out, by have := I.out.2; have := HD.out.1; omega⟩⟩
    · have hit := I.out.1.choose_spec.choose_spec.2.2.2.1
      have hnx : ∀ ty, (Instr.next (.pointer (some ⟨w1.heap.size + 1, 0, none⟩)) true ty).run Try.prog wr = _ := fun ty => Lib.run_next_end_at wr (w1.heap.size + 1) s pos ty hit hp
      clear hit
      go_wp2
      go_ret
      obtain ⟨⟨A, c, h1, h2, h3, h4, h5, h6⟩, _⟩ := I.out
      obtain rfl : pos = s.size := by omega
      exact ⟨_, rfl, ⟨A, c, h1, (Kd.R_reads' h2).2.1, (Kd.R_reads' h2).2.2⟩, h3, h6⟩
theorem place_New.calls (s : ByteArray) (w : World) (hs : s.size ≤ 1000000) :
    Calls Try.prog 19 #[.string s] w fun e w' => ∃ g, e = .returned (.pointer (some ⟨g, 0, none⟩)) ∧ place_Is w' g s (place_sts s s.size) ∧ Below w.heap.size w w' := by
  refine (place_New.whole s w hs).mono ?_
  rintro e w' ⟨g, h1, h2, h3, _⟩
  exact ⟨g, h1, h2, h3⟩

end Go.Proofs.Ytmebogkhdbbbbaa.P

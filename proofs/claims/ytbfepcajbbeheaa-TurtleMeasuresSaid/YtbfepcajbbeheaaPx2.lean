-- Written by a program of this session (wip/tools/hp.py) out of the translation.
import Derived.Test.YtbfepcajbbeheaaPx0
import Derived.Test.YtbfepcajbbeheaaPx1
namespace Go.Proofs.Ytbfepcajbbeheaa.P
open Go.RowKit Go.Proofs.YtbfepcajbbeheaaW.PrintWords Go.Proofs.YtbfepcajbbeheaaW.PrintLast Go.Proofs.YtbfepcajbbeheaaW.PrintMore
attribute [local go_sem] max2_int min2_int max_two min_two max_three min_three max_four min_four   -- for this text's walks alone
set_option linter.unusedVariables false
set_option linter.unusedSimpArgs false

/-! ### turtle_Draw: function 14 -/
open Go.Proofs.Ytbfepcajbbeheaa.C
theorem wpListIn_append_own_at {F : Fence} {n : Nat} {P : Program} (w : World) {ops : Array Oper} {rest : List Oper} {o : Oper} {a : Act} {Q : Exit → Act → World → Prop}
    (hg : o.guard = none) (s x : Operand) (t : TypeId) (hop : o.op = Op.call { callee := Callee.builtin Builtin.append, args := #[s, x], argTypes := #[t, t] })
    (base : Nat) (e : TypeId) (i : TypeInfo) (z : Value) (size bytes : Nat) (h1 : P.underlying t = some (.slice e)) (h2 : P.info? e = some i) (h3 : i.zero = some z) (h4 : i.size = size) (h5 : i.bytes = bytes) (h6 : z.cells.size = size) (h7 : 0 < size)
    (v : Value) (k : Nat) (xs : List Value) (hs : a.eval s = v) (hown : w.ownsRow base e size v k xs) (ad : Addr) (m c : Nat) (news : List Value) (hx : a.eval x = .slice (some ad) m c) (hn : news.length = m * size)
    (hc : ∀ j u, news[j]? = some u → w.cell? (ad.add j) = some u) (h1c : ∀ u ∈ news, u.oneCell' = true) (b1 : k + m ≤ maxLen) (b2 : (k + m) * bytes ≤ 140737488355328) (b3 : base ≤ w.heap.size)
    (hK : ∀ v' w', w'.ownsRow base e size v' (k + m) (xs ++ news) → w.grownBy w' v.ownBlock → wpListIn F n P ops Q rest (a.put o.dst v') w') :
    wpListIn F n P ops Q (o :: rest) a w := wpListIn_append_own w hg s x t hop base e i z size bytes h1 h2 h3 h4 h5 h6 h7 v k xs hs hown ad m c news hx hn hc h1c b1 b2 b3 (fun v' w' r1 r2 _ => hK v' w' r1 r2)
/-- append(v, x) of scalars inside a fence. -/
theorem tu_append_in {F : Fence} {m : Nat} {P : Program} {ops : Array Oper} {rest : List Oper} {o : Oper} {a : Act} {Q : Exit → Act → World → Prop} {α : Type} {enc : α → Value} {h1 : ∀ x, (enc x).oneCell' = true} {w0 W : World} (base : Nat) (hgd : o.guard = none) (s x : Operand) (t e : TypeId) (z : Value) (bytes : Nat)
    (ho : o.op = .call { callee := .builtin .append, args := #[s, x], argTypes := #[t, t] })
    (ht : P.underlying t = some (.slice e)) (hinfo : (P.info? e).map (fun i => (i.zero, i.size, i.bytes)) = some (some z, 1, bytes)) (hz : z.cells.size = 1) (hb0 : 0 < bytes)
    (v : Value) (xs : List α) (p : α) (cs : List Value) (hcs : cs = [enc p]) (hs : a.eval s = v) (hx : a.eval x = .slice (some ⟨W.heap.size, 0, none⟩) 1 1)
    (HO : (Kd.scalar enc h1).R e W base (fun _ => True) v xs) (HB : Below base w0 W) (hbase : base ≤ W.heap.size) (hl : (xs.length + 1) * bytes ≤ 140737488355328)
    (h : ∀ v1 w1, (Kd.scalar enc h1).R e w1 base (fun _ => True) v1 (xs ++ [p]) → Below base w0 w1 → wpListIn F m P ops Q rest (a.put o.dst v1) w1) :
    wpListIn F m P ops Q (o :: rest) a (W.alloc (.cells cs.toArray e)) := by
  subst hcs
  obtain ⟨i0, hi, hzz⟩ := Option.map_eq_some_iff.1 hinfo
  simp only [Prod.mk.injEq] at hzz
  obtain ⟨hz0, hz1, hz2⟩ := hzz
  have hlen : xs.length + 1 ≤ 140737488355328 := Nat.le_trans (Nat.le_mul_of_pos_right _ hb0) hl
  have hown := Kd.own_of_R HO
  refine wpListIn_append_own_at (W.alloc (.cells [enc p].toArray e)) hgd s x t ho base e i0 z 1 bytes ht hi hz0 hz1 hz2 hz (by decide) v xs.length _ hs (hown.alloc _) ⟨W.heap.size, 0, none⟩ 1 1 [enc p] hx rfl
    (by simpa using World.news_of_block (cs := [enc p].toArray) (t := e) (fr := (0, 0)) (heap_alloc_new W (.cells [enc p].toArray e))) (fun u hu => by rw [List.mem_singleton.1 hu]; exact h1 p) (by simp only [maxLen]; omega) hl (by simp; omega) ?_
  intro v1 w1 hown1 hg
  refine h v1 w1 (Kd.R_of_own (by rw [List.length_append, List.length_singleton]; simpa [encs] using hown1) (fun _ _ => trivial)) ?_
  exact (HB.alloc hbase _).grown hg (by simp; omega) (own_base hown)
theorem td_kept {base : Nat} {w w' : World} {g : Nat} {T : Tu} (h : IsT base w g T) {row : Option Nat} (hg : w.grownBy w' row) (hr : ∀ r, row = some r → ∃ o : Obj, w.heap[r]? = some o ∧ o.isCells = false) : IsT base w' g T := by
  obtain ⟨ax, ay, lx, ly, s, v, hblk, hf, hR, hb⟩ := h
  have ne : ∀ k c t f, w.heap[k]? = some (.cells c t f) → some k ≠ row := by
    intro k c t f hk e
    obtain ⟨o, ho, hc⟩ := hr k e.symm
    rw [hk] at ho
    cases ho
    cases hc
  refine ⟨ax, ay, lx, ly, s, v, (hg.block g (blk_lt hblk) (ne _ _ _ _ hblk)).trans hblk, hf, ?_, hb⟩
  refine Kd.R_grown2 hR rfl hg (fun k hk he => ?_)
  obtain ⟨cells, hc⟩ := Kd.R_typed hR k he.symm
  exact ne _ _ _ _ hc hk.symm
theorem tu_blk_grown {w w' : World} {g : Nat} {cs : Array Value} {t : TypeId} {f : Nat × Nat} {row : Option Nat} (h : w.heap[g]? = some (.cells cs t f)) (hg : w.grownBy w' row) (hr : ∀ r, row = some r → ∃ o : Obj, w.heap[r]? = some o ∧ o.isCells = false) : w'.heap[g]? = some (.cells cs t f) := by
  refine (hg.block g (blk_lt h) (fun e => ?_)).trans h
  obtain ⟨o, ho, hc⟩ := hr g e.symm
  rw [h] at ho
  cases ho
  cases hc
theorem tu_set {base : Nat} {w : World} {g : Nat} {T : Tu} (h : IsT base w g T) {b : Nat} {cs : Array Value} {t : TypeId} (hb : w.heap[b]? = some (.cells cs t (0, 0))) (h1 : t ≠ 51) (h2 : t ≠ 68) (i : Nat) (v : Value) : IsT base (w.setCell ⟨b, i, none⟩ v) g T := by
  obtain ⟨ax, ay, lx, ly, s, u, hblk, hf, hR, hg⟩ := h
  refine ⟨ax, ay, lx, ly, s, u, (Below.heap_setCell w ⟨b, i, none⟩ v g (fun e => ?_)).trans hblk, hf, Kd.R_set hR hb (fun q hq => by rw [List.mem_singleton.1 hq]; exact fun e => h2 e.symm) i v, hg⟩
  have e' : g = b := e
  subst e'
  rw [hb] at hblk
  injection hblk with hblk
  injection hblk with _ e2
  exact h1 e2
theorem tu_other {w : World} {b i k : Nat} {o : Obj} {v : Value} (h : w.heap[k]? = some o) (hne : k ≠ b) : (w.setCell ⟨b, i, none⟩ v).heap[k]? = some o := (Below.heap_setCell w ⟨b, i, none⟩ v k hne).trans h
theorem tu_drew {base : Nat} {w : World} {g : Nat} {T : Tu} (h : IsT base w g T) : IsT base w.drew g T := h
theorem tu_cell_put {W : World} {D k : Nat} {o : Obj} {v : Value} {t : TypeId} (h : W.heap[k]? = some (.cells #[v] t (0, 0))) (hne : k ≠ D) : (W.putObj D o).cell? ⟨k, 0, none⟩ = some v := by
  have h2 : (W.putObj D o).heap[k]? = some (.cells #[v] t (0, 0)) := (World.putObj_heap_other hne).trans h
  exact blk_cell h2 0
/-- Pair by pair: the turtle then, how many, the error. -/
def tu_run : Tu → List (Int × Int) → Nat → Tu × Nat × Int
  | T, [], n => (T, n, 0)
  | T, p :: t, n => if (tu_do T p.1 p.2).2 = 0 then tu_run (tu_do T p.1 p.2).1 t (n + 1) else ((tu_do T p.1 p.2).1, n, (tu_do T p.1 p.2).2)
theorem tu_run_snoc (x : Int × Int) : ∀ (ps : List (Int × Int)) (T : Tu) (n : Nat) (T' : Tu) (m : Nat), tu_run T ps n = (T', m, 0) → tu_run T (ps ++ [x]) n = if (tu_do T' x.1 x.2).2 = 0 then ((tu_do T' x.1 x.2).1, m + 1, 0) else ((tu_do T' x.1 x.2).1, m, (tu_do T' x.1 x.2).2)
  | [], T, n, T', m, h => by
    simp only [tu_run, Prod.mk.injEq] at h
    obtain ⟨rfl, rfl, _⟩ := h
    simp only [List.nil_append, tu_run]
  | p :: t, T, n, T', m, h => by
    rw [List.cons_append]
    unfold tu_run at h ⊢
    split at h
    · rename_i hp
      rw [if_pos hp]
      exact tu_run_snoc x t _ _ _ _ h
    · rename_i hp
      simp only [Prod.mk.injEq] at h
      exact absurd h.2.2 hp
theorem tu_run_stop (qs : List (Int × Int)) : ∀ (ps : List (Int × Int)) (T : Tu) (n : Nat) (T' : Tu) (m : Nat) (e : Int), tu_run T ps n = (T', m, e) → e ≠ 0 → tu_run T (ps ++ qs) n = (T', m, e)
  | [], T, n, T', m, e, h, he => by
    simp only [tu_run, Prod.mk.injEq] at h
    exact absurd h.2.2.symm he
  | p :: t, T, n, T', m, e, h, he => by
    rw [List.cons_append]
    unfold tu_run at h ⊢
    split at h
    · rename_i hp
      rw [if_pos hp]
      exact tu_run_stop qs t _ _ _ _ _ h he
    · rename_i hp
      rw [if_neg hp]
      exact h
theorem tu_run_ok : ∀ (ps : List (Int × Int)) (T : Tu) (n : Nat), TuOk T → TuOk (tu_run T ps n).1 ∧ (tu_run T ps n).1.l.length ≤ T.l.length + ps.length ∧ (tu_run T ps n).2.1 ≤ n + ps.length
  | [], T, n, h => ⟨h, by simp [tu_run], by simp [tu_run]⟩
  | p :: t, T, n, h => by
    unfold tu_run
    have h1 := tu_do_ok h p.1 p.2
    have h2 := tu_do_len T p.1 p.2
    split
    · obtain ⟨a, b, c⟩ := tu_run_ok t (tu_do T p.1 p.2).1 (n + 1) h1
      exact ⟨a, by simp only [List.length_cons]; omega, by simp only [List.length_cons]; omega⟩
    · exact ⟨h1, by simp only [List.length_cons]; omega, by simp only [List.length_cons]; omega⟩
def tu_vals (l : List S72) : List Int := (l.filter (fun e => decide (e.f0 = 0))).map (·.f1)
theorem tu_vals_snoc (l : List S72) (x : S72) : tu_vals (l ++ [x]) = if x.f0 = 0 then tu_vals l ++ [x.f1] else tu_vals l := by
  unfold tu_vals
  rw [List.filter_append, List.map_append]
  split <;> rename_i h <;> simp [h]
theorem tu_vals_len (l : List S72) : (tu_vals l).length ≤ l.length := by
  unfold tu_vals
  rw [List.length_map]
  exact List.length_filter_le _ _
def tu_drawn (l : List S72) : Tu × Nat × Int := tu_run tu0 (tu_pairs (tu_vals l)) 0
theorem tu_info32 : (Try.prog.info? 21).map (fun i => (i.zero, i.size, i.bytes)) = some (some (.int .i32 0), 1, 4) := by kernel_rfl
theorem tu_start3 (w : World) (O1 O2 O3 : Obj) : (((w.alloc O1).alloc O2).alloc O3).heap[w.heap.size]? = some O1 ∧ (((w.alloc O1).alloc O2).alloc O3).heap[w.heap.size + 1]? = some O2 ∧ (((w.alloc O1).alloc O2).alloc O3).heap[w.heap.size + 1 + 1]? = some O3 ∧ Below w.heap.size w (((w.alloc O1).alloc O2).alloc O3) := by
  have e1 : (w.alloc O1).heap.size = w.heap.size + 1 := by simp
  have h1 := blk_new (w.alloc O1) O2
  rw [e1] at h1
  have h2 := blk_new ((w.alloc O1).alloc O2) O3
  have e2 : ((w.alloc O1).alloc O2).heap.size = w.heap.size + 1 + 1 := by simp
  rw [e2] at h2
  exact ⟨blk_alloc (blk_alloc (blk_new w O1) _) _, blk_alloc h1 _, h2, below_alloc (below_alloc (below_alloc (Below.refl _ _) _) _) _⟩
theorem tu_meas1 (n j : Nat) (h : j < n) (hw : wrap64 ((j : Int) + 1) = ((j + 1 : Nat) : Int)) : n - (intOf (.int .i64 (wrap64 ((j : Int) + 1)))).toNat < n - (intOf (.int .i64 (j : Int))).toNat := by
  rw [hw]
  show n - (((j + 1 : Nat) : Int)).toNat < n - ((j : Int)).toNat
  rw [Int.toNat_natCast, Int.toNat_natCast]
  omega
section
attribute [local go_sem] Oper.semAt_some
set_option maxRecDepth 100000 in
set_option maxHeartbeats 8000000 in
theorem tu_Draw_calls (A : Option Addr) (c : Nat) (l : List S72) (w : World) (hC : Kd.C k72 w A l.length l) (hl : l.length ≤ 1000) :
    Calls Try.prog 14 #[.slice A l.length c] w fun e w' => ∃ g b, e = .returned (.tuple #[.pointer (some ⟨g, 0, none⟩), .int .i64 ((tu_drawn l).2.1 : Nat), .int .i64 (tu_drawn l).2.2]) ∧ w.heap.size ≤ b ∧ IsT b w' g (tu_drawn l).1 ∧ Below w.heap.size w w' := by
  have HC := Aside0.mk hC; have HLen := Aside0.mk hl
  clear hC hl
  refine (callsIn_wide (n := 5)).1 ?_
  refine callsIn_of_wp_marks Try.func14 rfl trivial ?_ rfl
  simp only [Try.ntmps14, List.size_toArray, List.length_cons, List.length_nil, Nat.reduceAdd, Nat.reduceSub, Array.replicate_succ, Array.replicate_zero, List.push_toArray, List.append_toArray, List.nil_append, List.cons_append]
  gi_wp2
  obtain ⟨g1, g2, g3, g4⟩ := tu_start3 w (.cells #[.pointer none] 24) (.cells #[.int .i64 0] 3) (.cells #[.int .i64 0] 34)
  obtain ⟨W0, hW0⟩ : ∃ W0, (((w.alloc (.cells #[.pointer none] 24)).alloc (.cells #[.int .i64 0] 3)).alloc (.cells #[.int .i64 0] 34)) = W0 := ⟨_, rfl⟩
  rw [hW0] at g1 g2 g3 g4 ⊢
  clear hW0
  have G1 := Aside0.mk g1; have G2 := Aside0.mk g2; have G3 := Aside0.mk g3; have G4 := Aside0.mk g4
  clear g1 g2 g3 g4
  gi_loopw [5, 15] (fun v5 v15 wr => ∃ i : Nat, v15 = .int .i64 (i : Int) ∧ Aside0 (i ≤ l.length) ∧ Aside0 (Kd.R (Kd.int .i32) 21 wr W0.heap.size (fun _ => True) v5 (tu_vals (l.take i))) ∧ Aside0 (Below W0.heap.size W0 wr)) (fun _ v _ => l.length - (intOf v).toNat)
  case atStart => exact ⟨0, rfl, ⟨Nat.zero_le _⟩, ⟨Kd.R_nil _ _ _ _ _⟩, ⟨Below.refl _ _⟩⟩
  case round =>
    obtain ⟨i, rfl, HI, HR, HB⟩ := hrel
    have hi2 := HI.out
    have hln := HLen.out
    by_cases hi : i < l.length
    · obtain ⟨ad, e, hx0, hx1⟩ := at_T72 HC.out (i : Int) (by omega) (by omega)
      cases e
      rw [Int.toNat_natCast] at hx0 hx1
      have htk : tu_vals (l.take (i + 1)) = if (rd_T72 l (i : Int)).f0 = 0 then tu_vals (l.take i) ++ [(rd_T72 l (i : Int)).f1] else tu_vals (l.take i) := by
        rw [← tu_vals_snoc, List.take_succ_eq_append_getElem hi]
        unfold rd_T72
        rw [Int.toNat_natCast]
        simp [hi]
      generalize rd_T72 l (i : Int) = z at hx0 hx1 htk
      obtain ⟨x, y⟩ := z
      dsimp only at hx0 hx1 htk
      have hbw : Below w.heap.size w wr := G4.out.trans (HB.out.mono G4.out.size)
      replace hx0 := (hbw.cell (World.block_lt_of_cell? w _ hx0)).trans hx0
      replace hx1 := (hbw.cell (World.block_lt_of_cell? w _ hx1)).trans hx1
      have p1 : (0 ≤ (i : Int)) = True := eq_true (by omega)
      have p3 : ((i : Int) < (l.length : Int)) = True := eq_true (by omega)
      have p4 : decide ((i : Int) < (l.length : Int)) = true := decide_eq_true (by omega)
      have p5 : decide (i < l.length) = true := decide_eq_true hi
      have p7 : (i < l.length) = True := eq_true hi
      have hw1 : wrap64 ((i : Int) + 1) = ((i + 1 : Nat) : Int) := by unfold wrap64; omega
      have HT := Aside0.mk htk; have HW1 := Aside0.mk hw1; have HLt := Aside0.mk hi
      have HVL := Aside0.mk (show (tu_vals (l.take i)).length ≤ 1000 from Nat.le_trans (tu_vals_len _) (by rw [List.length_take]; omega))
      clear htk hw1 hi hi2 hln hbw
      by_cases hx : x = 0
      · have hxb : (x == 0) = true := beq_iff_eq.mpr hx
        rw [if_pos hx] at HT
        clear hx
        gi_wp2_with (first | (gi_at_builtin; go_loud (refine tu_append_in (w0 := W0) W0.heap.size rfl (.tmp 22) (.tmp 25) 53 21 (.int .i32 0) 4 rfl Try.underlying53 tu_info32 rfl (by decide) u5 (tu_vals (l.take i)) y [.int .i32 y] rfl (by first | rfl | (simp [Act.eval, Act.put]; done)) (by first | rfl | (simp [Act.eval, Act.put]; done)) (Kd.R_alloc HR.out _) (below_alloc HB.out _) (Nat.le_trans HB.out.size (by simp)) (by have := HVL.out; omega) ?_); intro v1 w1 hr1 hb1; have HR1 := Aside0.mk hr1; have HB1 := Aside0.mk hb1; clear hr1 hb1))
        go_roundw
        case rel => exact ⟨i + 1, congrArg (Value.int .i64) HW1.out, ⟨HLt.out⟩, ⟨by rw [HT.out]; exact HR1.out⟩, ⟨HB1.out⟩⟩
        case measure => exact tu_meas1 _ _ HLt.out HW1.out
      · have hxb : (x == 0) = false := beq_eq_false_iff_ne.mpr hx
        rw [if_neg hx] at HT
        clear hx
        gi_wp2
        go_roundw
        case rel => exact ⟨i + 1, congrArg (Value.int .i64) HW1.out, ⟨HLt.out⟩, ⟨by rw [HT.out]; exact Kd.R_alloc HR.out _⟩, ⟨below_alloc HB.out _⟩⟩
        case measure => exact tu_meas1 _ _ HLt.out HW1.out
    · have e : i = l.length := by omega
      subst e
      have hv := HR.out
      rw [List.take_length] at hv
      have HV := Aside0.mk hv
      have HVL := Aside0.mk (show (tu_vals l).length ≤ 1000 from Nat.le_trans (tu_vals_len _) hln)
      obtain ⟨A5, c5, rfl, hc5, hC5⟩ := Kd.R_reads hv
      have HC5 := Aside0.mk hC5
      clear hv hi hi2 hln HR HV hc5 hC5
      gi_wp2_with (first | (refine ⟨trivial, ?_⟩; gi_at_call 9; refine (callsIn_wide.2 (tu_new_calls _)).mono ?_; rintro e w3 ⟨rfl, hI, hb⟩; have HIT := Aside0.mk hI; have HB3 := Aside0.mk hb; clear hI hb) | (refine ⟨trivial, ?_⟩; gi_at_call 19; refine (callsIn_wide.2 (tu_Pairs_calls _ _ ⟨_, _, _, rfl⟩)).mono ?_; rintro e w4 ⟨rfl, rfl⟩))
      obtain ⟨g1, g2, g3, g4⟩ := tu_start3 w3 (.cells #[.pointer (some ⟨wr.heap.size, 0, none⟩)] 24) (.cells #[.int .i64 0] 3) (.cells #[.slice A5 (tu_vals l).length c5] 53)
      obtain ⟨W1, hW1⟩ : ∃ W1, (((w3.alloc (.cells #[.pointer (some ⟨wr.heap.size, 0, none⟩)] 24)).alloc (.cells #[.int .i64 0] 3)).alloc (.cells #[.slice A5 (tu_vals l).length c5] 53)) = W1 := ⟨_, rfl⟩
      rw [hW1] at g1 g2 g3 g4 ⊢
      clear hW1
      have hlt3 := blk_lt g3
      have hs3 := HB3.out.size
      have hwr := HB.out.size
      have hw0 := G4.out.size
      have hB1 : Below wr.heap.size wr W1 := HB3.out.trans (g4.mono HB3.out.size)
      have hIT1 : IsT wr.heap.size W1 wr.heap.size tu0 := td_kept HIT.out (row := none) ⟨g4.os, g4.tape, g4.output, g4.size, fun k hk _ => g4.block k hk⟩ (fun r e => by cases e)
      have hr2 : wr.heap[w.heap.size]? = some (.cells #[.pointer none] 24 (0, 0)) := (HB.out.block _ (blk_lt G1.out)).trans G1.out
      have hr3 : wr.heap[w.heap.size + 1]? = some (.cells #[.int .i64 0] 3 (0, 0)) := (HB.out.block _ (blk_lt G2.out)).trans G2.out
      have hr4 : wr.heap[w.heap.size + 1 + 1]? = some (.cells #[.int .i64 0] 34 (0, 0)) := (HB.out.block _ (blk_lt G3.out)).trans G3.out
      have HR2 := Aside0.mk hr2; have HR3 := Aside0.mk hr3; have HR4 := Aside0.mk hr4
      have hq4 := blk_lt hr4
      have hbw : Below w.heap.size w wr := G4.out.trans (HB.out.mono G4.out.size)
      have HBW := Aside0.mk hbw
      clear hr2 hr3 hr4 hbw
      have hN : (tu_pairs (tu_vals l)).length ≤ 500 := by rw [tu_pairs_len]; have := HVL.out; omega
      have HN := Aside0.mk hN
      clear hN
      refine wpIn_rangeFunc_ownF rfl (by omega) (gf := 32) (lb := #[.pointer (some ⟨w3.heap.size + 1 + 1, 0, none⟩)]) rfl trivial (enters_of Try.func32 (by kernel_rfl) rfl)
        (tu_iter (5 - 1) (by omega) A5 c5 (tu_vals l) wr W1 (w3.heap.size + 1 + 1) HC5 (Nat.le_trans HVL.out (by decide)) hB1 g3) (fun h k => KpP.trans h k) (fun W l o o' h0 h hc hw => ⟨belowK_b (by omega) W l o o' h0 h hc hw, fun q e => (World.putObj_heap_other (by omega)).trans e⟩) (Below.refl _ _) (fun _ => rfl)
        (fun pre W => ((∃ T, tu_run tu0 pre 0 = (T, pre.length, 0) ∧ IsT wr.heap.size W wr.heap.size T) ∧ W.heap[w3.heap.size]? = some (.cells #[.pointer (some ⟨wr.heap.size, 0, none⟩)] 24 (0, 0)) ∧ W.heap[w3.heap.size + 1]? = some (.cells #[.int .i64 (pre.length : Nat)] 3 (0, 0)) ∧ W.heap[w3.heap.size + 1 + 1]? = some (.cells #[.slice A5 (tu_vals l).length c5] 53 (0, 0))) ∧ Below wr.heap.size wr W)
        (fun c pre W => (c = .ret ∧ ∃ T m e, tu_run tu0 pre 0 = (T, m, e) ∧ e ≠ 0 ∧ IsT wr.heap.size W wr.heap.size T ∧ W.heap[w.heap.size]? = some (.cells #[.pointer (some ⟨wr.heap.size, 0, none⟩)] 24 (0, 0)) ∧ W.heap[w.heap.size + 1]? = some (.cells #[.int .i64 (m : Nat)] 3 (0, 0)) ∧ W.heap[w.heap.size + 1 + 1]? = some (.cells #[.int .i64 e] 34 (0, 0))) ∧ Below w.heap.size w W)
        (OwnFrom.and (Own.from (fun s A B row hs hg hr => ⟨(by obtain ⟨T, h1, h2⟩ := hs.1; exact ⟨T, h1, td_kept h2 hg hr⟩), tu_blk_grown hs.2.1 hg hr, tu_blk_grown hs.2.2.1 hg hr, tu_blk_grown hs.2.2.2 hg hr⟩) _) (ownFrom_below (Nat.le_refl _) (by omega)))
        (fun c => OwnFrom.and (Own.from (fun s A B row hs hg hr => ⟨hs.1, (by obtain ⟨T, m, e, h1, h2, h3, h4, h5, h6⟩ := hs.2; exact ⟨T, m, e, h1, h2, td_kept h3 hg hr, tu_blk_grown h4 hg hr, tu_blk_grown h5 hg hr, tu_blk_grown h6 hg hr⟩)⟩) _) (ownFrom_below (Nat.le_refl _) (by omega)))
        ⟨⟨⟨tu0, rfl, hIT1⟩, g1, g2, g3⟩, hB1⟩
        (fun x => { tmps := #[.slice A l.length c, undef, .pointer (some ⟨w.heap.size, 0, none⟩), .pointer (some ⟨w.heap.size + 1, 0, none⟩), .pointer (some ⟨w.heap.size + 1 + 1, 0, none⟩), .slice A5 (tu_vals l).length c5, undef, u7, .pointer (some ⟨w3.heap.size, 0, none⟩), .pointer (some ⟨w3.heap.size + 1, 0, none⟩), .int .i32 x.1, .int .i32 x.2, undef, .slice A l.length c, .int .i64 (l.length : Nat), .int .i64 (l.length : Nat), .bool false, u17, u18, u19, u20, u21, u22, u23, u24, u25, u26, u27, .pointer (some ⟨wr.heap.size, 0, none⟩), .slice A5 (tu_vals l).length c5, .func (.func 32) #[] #[.pointer (some ⟨w3.heap.size + 1 + 1, 0, none⟩)], .int .i32 x.1, .int .i32 x.2, undef, undef, undef, undef, undef, undef, undef, undef, undef, undef, undef, undef, undef], defers := [] }) ?assign ?body ?done ?stop
      case assign =>
        intro l x W K hK
        gi_wp2
        exact hK
      case body =>
        rintro lr pre x W ⟨⟨⟨T, hrun, hI⟩, hc1, hc2, hc3⟩, hB⟩ hlen2
        have hok := tu_run_ok pre tu0 0 tu0_ok
        rw [hrun] at hok
        have hpl : pre.length < 500 := Nat.lt_of_lt_of_le hlen2 HN.out
        have hsnoc := tu_run_snoc x pre tu0 0 T pre.length hrun
        have hbs := hB.size
        have HI := Aside0.mk hI; have HOk := Aside0.mk hok; have HPL := Aside0.mk hpl; have HSN := Aside0.mk hsnoc; have HBB := Aside0.mk hB; have HC1 := Aside0.mk hc1; have HC2 := Aside0.mk hc2; have HC3 := Aside0.mk hc3
        have k1 : W.cell? ⟨w3.heap.size, 0, none⟩ = some (.pointer (some ⟨wr.heap.size, 0, none⟩)) := blk_cell hc1 0
        have hw1 : wrap64 ((pre.length : Int) + 1) = ((pre.length + 1 : Nat) : Int) := by unfold wrap64; omega
        have HW1 := Aside0.mk hw1
        clear hI hok hpl hsnoc hB hc1 hc2 hc3 hw1 hrun hlen2
        obtain ⟨x1, x2⟩ := x
        dsimp only at HSN ⊢
        by_cases he : (tu_do T x1 x2).2 = 0
        · rw [if_pos he] at HSN
          have b1 : ((tu_do T x1 x2).2 != 0) = false := by rw [he]; rfl
          have b2 : ((tu_do T x1 x2).2 == 0) = true := by rw [he]; rfl
          clear he
          gi_wp2_with (first | (refine ⟨trivial, ?_⟩; gi_at_call 12; refine (CallsIn.inRound lr (callsIn_wide.2 (tu_do_calls wr.heap.size wr.heap.size T x1 x2 W HI.out HOk.out.1 (by have := HOk.out.2.1; have := HPL.out; have h0 : tu0.l.length = 0 := rfl; omega) hbs))).mono ?_; rintro e w5 ⟨rfl, hI5, hb5⟩; have HI5 := Aside0.mk hI5; have HB5 := Aside0.mk hb5; have HN5 := Aside0.mk (hb5.cells HC2.out (by decide) (by decide)); have k5 : w5.cell? ⟨w3.heap.size + 1, 0, none⟩ = some (.int .i64 (pre.length : Nat)) := blk_cell HN5.out 0; have z5 := blk_frozen HN5.out 0; clear hI5 hb5))
          refine ⟨HB5.out.others.trans (KeepsOthers.setCell _ _ _), ⟨HB5.out.below.setCell (p := ⟨w3.heap.size + 1, 0, none⟩) (by show wr.heap.size ≤ w3.heap.size + 1; omega) _, fun o e => ?_⟩, ⟨⟨⟨_, by rw [List.length_append]; exact HSN.out, tu_set HI5.out HN5.out (by decide) (by decide) _ _⟩, ?_, ?_, ?_⟩, (HBB.out.trans HB5.out.below).setCell (p := ⟨w3.heap.size + 1, 0, none⟩) (by show wr.heap.size ≤ w3.heap.size + 1; omega) _⟩⟩
          · rw [HC3.out] at e
            injection e with e
            subst e
            exact tu_other (HB5.out.cells HC3.out (by decide) (by decide)) (by omega)
          · exact tu_other (HB5.out.cells HC1.out (by decide) (by decide)) (by omega)
          · rw [blk_put HN5.out 0 _ rfl, List.length_append, List.length_singleton, HW1.out]; rfl
          · exact tu_other (HB5.out.cells HC3.out (by decide) (by decide)) (by omega)
        · rw [if_neg he] at HSN
          have b1 : ((tu_do T x1 x2).2 != 0) = true := bne_iff_ne.mpr he
          have b2 : ((tu_do T x1 x2).2 == 0) = false := beq_eq_false_iff_ne.mpr he
          have HE := Aside0.mk he
          clear he
          gi_wp2_with (first | (refine ⟨trivial, ?_⟩; gi_at_call 12; refine (CallsIn.inRound lr (callsIn_wide.2 (tu_do_calls wr.heap.size wr.heap.size T x1 x2 W HI.out HOk.out.1 (by have := HOk.out.2.1; have := HPL.out; have h0 : tu0.l.length = 0 := rfl; omega) hbs))).mono ?_; rintro e w5 ⟨rfl, hI5, hb5⟩; have HI5 := Aside0.mk hI5; have HB5 := Aside0.mk hb5; have HN5 := Aside0.mk (hb5.cells HC2.out (by decide) (by decide)); have k5 : w5.cell? ⟨w3.heap.size + 1, 0, none⟩ = some (.int .i64 (pre.length : Nat)) := blk_cell HN5.out 0; have z5 := blk_frozen HN5.out 0; clear hI5 hb5))
          have m2 : w5.heap[w.heap.size]? = some (.cells #[.pointer none] 24 (0, 0)) := ((HBB.out.trans HB5.out.below).block _ (by omega)).trans HR2.out
          have m3 : w5.heap[w.heap.size + 1]? = some (.cells #[.int .i64 0] 3 (0, 0)) := ((HBB.out.trans HB5.out.below).block _ (by omega)).trans HR3.out
          have m4 : w5.heap[w.heap.size + 1 + 1]? = some (.cells #[.int .i64 0] 34 (0, 0)) := ((HBB.out.trans HB5.out.below).block _ (by omega)).trans HR4.out
          have M2 := Aside0.mk m2; have M3 := Aside0.mk m3; have M4 := Aside0.mk m4
          have hT5 := HB5.out.keep _ _ HC1.out (fun cs f e => by cases e) (fun cs f e => by cases e)
          have k8 : w5.cell? ⟨w3.heap.size, 0, none⟩ = some (.pointer (some ⟨wr.heap.size, 0, none⟩)) := blk_cell hT5 0
          have r2 : w5.cell? ⟨w.heap.size, 0, none⟩ = some (.pointer none) := blk_cell m2 0
          have r3 : w5.cell? ⟨w.heap.size + 1, 0, none⟩ = some (.int .i64 0) := blk_cell m3 0
          have r4 : w5.cell? ⟨w.heap.size + 1 + 1, 0, none⟩ = some (.int .i64 0) := blk_cell m4 0
          have z2 := blk_frozen m2 0
          have z3 := blk_frozen m3 0
          have z4 := blk_frozen m4 0
          have n1 : (w.heap.size = w3.heap.size + 1) = False := eq_false (by omega)
          have n2 : (w3.heap.size + 1 = w.heap.size) = False := eq_false (by omega)
          have n3 : (w.heap.size = w3.heap.size) = False := eq_false (by omega)
          have n4 : (w3.heap.size = w.heap.size) = False := eq_false (by omega)
          clear m2 m3 m4 hT5
          have Q2 := Aside0.mk (blk_put M2.out 0 (.pointer (some ⟨wr.heap.size, 0, none⟩)) rfl)
          have Q3 := Aside0.mk (blk_put (tu_other (b := w.heap.size) (i := 0) (v := .pointer (some ⟨wr.heap.size, 0, none⟩)) M3.out (by omega)) 0 (.int .i64 (pre.length : Nat)) rfl)
          have Q4 := Aside0.mk (blk_put (tu_other (b := w.heap.size + 1) (i := 0) (v := .int .i64 (pre.length : Nat)) (tu_other (b := w.heap.size) (i := 0) (v := .pointer (some ⟨wr.heap.size, 0, none⟩)) M4.out (by omega)) (by omega)) 0 (.int .i64 (tu_do T x1 x2).2) rfl)
          gi_region
          all_goals
            gi_wp2
            refine ⟨((HB5.out.others.trans (KeepsOthers.setCell _ _ _)).trans (KeepsOthers.setCell _ _ _)).trans ((KeepsOthers.setCell _ _ _).trans (KeepsOthers.drew _)), ⟨rfl, _, _, _, HSN.out, HE.out, ?_, ?_, ?_, Q4.out⟩, ?_⟩
            · exact tu_drew (tu_set (tu_set (tu_set HI5.out M2.out (by decide) (by decide) _ _) (tu_other M3.out (by omega)) (by decide) (by decide) _ _) (tu_other (tu_other M4.out (by omega)) (by omega)) (by decide) (by decide) _ _)
            · exact tu_other (tu_other Q2.out (by omega)) (by omega)
            · exact tu_other Q3.out (by omega)
            · exact below_drew ((((HBW.out.trans ((HBB.out.trans HB5.out.below).mono HBW.out.size)).setCell (p := ⟨w.heap.size, 0, none⟩) (Nat.le_refl _) _).setCell (p := ⟨w.heap.size + 1, 0, none⟩) (by show w.heap.size ≤ w.heap.size + 1; omega) _).setCell (p := ⟨w.heap.size + 1 + 1, 0, none⟩) (by show w.heap.size ≤ w.heap.size + 1 + 1; omega) _)
      case done =>
        rintro D xs W hD hxs ⟨⟨⟨T, hrun, hI⟩, hc1, hc2, hc3⟩, hB⟩ hK
        subst hxs
        have hK' := Aside0.mk hK
        have m2 : W.heap[w.heap.size]? = some (.cells #[.pointer none] 24 (0, 0)) := (hB.block _ (by omega)).trans HR2.out
        have m3 : W.heap[w.heap.size + 1]? = some (.cells #[.int .i64 0] 3 (0, 0)) := (hB.block _ (by omega)).trans HR3.out
        have m4 : W.heap[w.heap.size + 1 + 1]? = some (.cells #[.int .i64 0] 34 (0, 0)) := (hB.block _ (by omega)).trans HR4.out
        have M2 := Aside0.mk m2; have M3 := Aside0.mk m3; have M4 := Aside0.mk m4
        have k8 : W.cell? ⟨w3.heap.size, 0, none⟩ = some (.pointer (some ⟨wr.heap.size, 0, none⟩)) := blk_cell hc1 0
        have k9 : W.cell? ⟨w3.heap.size + 1, 0, none⟩ = some (.int .i64 ((tu_pairs (tu_vals l)).length : Nat)) := blk_cell hc2 0
        have r2 : W.cell? ⟨w.heap.size, 0, none⟩ = some (.pointer none) := blk_cell m2 0
        have r3 : W.cell? ⟨w.heap.size + 1, 0, none⟩ = some (.int .i64 0) := blk_cell m3 0
        have r4 : W.cell? ⟨w.heap.size + 1 + 1, 0, none⟩ = some (.int .i64 0) := blk_cell m4 0
        have z2 := blk_frozen m2 0
        have z3 := blk_frozen m3 0
        have z4 := blk_frozen m4 0
        have n1 : (w.heap.size = w3.heap.size + 1) = False := eq_false (by omega)
        have n2 : (w3.heap.size + 1 = w.heap.size) = False := eq_false (by omega)
        have n3 : (w.heap.size = w3.heap.size) = False := eq_false (by omega)
        have n4 : (w3.heap.size = w.heap.size) = False := eq_false (by omega)
        have HI := Aside0.mk hI; have HBB := Aside0.mk hB; have HRN := Aside0.mk hrun
        clear m2 m3 m4 hc1 hc2 hc3 hI hB hrun hK
        have HD := Aside0.mk (show tu_drawn l = (T, (tu_pairs (tu_vals l)).length, 0) from HRN.out)
        gi_wp2
        have Q2 := Aside0.mk (blk_put M2.out 0 (.pointer (some ⟨wr.heap.size, 0, none⟩)) rfl)
        have Q3 := Aside0.mk (blk_put (tu_other (b := w.heap.size) (i := 0) (v := .pointer (some ⟨wr.heap.size, 0, none⟩)) M3.out (by omega)) 0 (.int .i64 ((tu_pairs (tu_vals l)).length : Nat)) rfl)
        have Q4 := Aside0.mk (blk_put (tu_other (b := w.heap.size + 1) (i := 0) (v := .int .i64 ((tu_pairs (tu_vals l)).length : Nat)) (tu_other (b := w.heap.size) (i := 0) (v := .pointer (some ⟨wr.heap.size, 0, none⟩)) M4.out (by omega)) (by omega)) 0 (.int .i64 0) rfl)
        gi_region
        all_goals
          gi_wp2
          have hKK := ((((KeepsOthers.setCell W ⟨w.heap.size, 0, none⟩ (.pointer (some ⟨wr.heap.size, 0, none⟩))).trans (KeepsOthers.setCell _ ⟨w.heap.size + 1, 0, none⟩ (.int .i64 ((tu_pairs (tu_vals l)).length : Nat)))).trans (KeepsOthers.setCell _ ⟨w.heap.size + 1 + 1, 0, none⟩ (.int .i64 0))).trans (KeepsOthers.drew _)).same D _ hK'.out rfl
          refine ⟨by simp, .inl ⟨_, _, rfl, run_takeDeferred hKK, ?_⟩⟩
          have f2 := tu_cell_put (W := (((W.setCell ⟨w.heap.size, 0, none⟩ (.pointer (some ⟨wr.heap.size, 0, none⟩))).setCell ⟨w.heap.size + 1, 0, none⟩ (.int .i64 ((tu_pairs (tu_vals l)).length : Nat))).setCell ⟨w.heap.size + 1 + 1, 0, none⟩ (.int .i64 0)).drew) (D := D) (o := .deferred none) (tu_other (tu_other Q2.out (by omega)) (by omega)) (by omega)
          have f3 := tu_cell_put (W := (((W.setCell ⟨w.heap.size, 0, none⟩ (.pointer (some ⟨wr.heap.size, 0, none⟩))).setCell ⟨w.heap.size + 1, 0, none⟩ (.int .i64 ((tu_pairs (tu_vals l)).length : Nat))).setCell ⟨w.heap.size + 1 + 1, 0, none⟩ (.int .i64 0)).drew) (D := D) (o := .deferred none) (tu_other Q3.out (by omega)) (by omega)
          have f4 := tu_cell_put (W := (((W.setCell ⟨w.heap.size, 0, none⟩ (.pointer (some ⟨wr.heap.size, 0, none⟩))).setCell ⟨w.heap.size + 1, 0, none⟩ (.int .i64 ((tu_pairs (tu_vals l)).length : Nat))).setCell ⟨w.heap.size + 1 + 1, 0, none⟩ (.int .i64 0)).drew) (D := D) (o := .deferred none) Q4.out (by omega)
          refine ⟨.tuple #[.pointer (some ⟨wr.heap.size, 0, none⟩), .int .i64 ((tu_pairs (tu_vals l)).length : Nat), .int .i64 0], ?_, wr.heap.size, wr.heap.size, by rw [HD.out], by omega, ?_, ?_⟩
          · simp [results, Try.f14, go_sem, f2, f3, f4]
          · rw [HD.out]
            exact td_kept (tu_drew (tu_set (tu_set (tu_set HI.out M2.out (by decide) (by decide) _ _) (tu_other M3.out (by omega)) (by decide) (by decide) _ _) (tu_other (tu_other M4.out (by omega)) (by omega)) (by decide) (by decide) _ _)) (grownBy_putObj' _ D (.deferred none)) (fun r e => by cases e; exact ⟨_, hKK, rfl⟩)
          · exact Below.trans (below_drew ((((HBW.out.trans (HBB.out.mono HBW.out.size)).setCell (p := ⟨w.heap.size, 0, none⟩) (Nat.le_refl _) _).setCell (p := ⟨w.heap.size + 1, 0, none⟩) (by show w.heap.size ≤ w.heap.size + 1; omega) _).setCell (p := ⟨w.heap.size + 1 + 1, 0, none⟩) (by show w.heap.size ≤ w.heap.size + 1 + 1; omega) _)) (belowK_b (w := w) (Nat.le_refl _) _ D _ _ (by omega) hKK rfl rfl)
      case stop =>
        rintro D c2 pre W hD hpre ⟨⟨rfl, T, m, e, hrun, he, hI, q2, q3, q4⟩, hB⟩ hK
        obtain ⟨k, rfl⟩ := hpre
        have hd : tu_drawn l = (T, m, e) := by
          have := tu_run_stop ((tu_pairs (tu_vals l)).drop k) _ _ _ _ _ _ hrun he
          rw [List.take_append_drop] at this
          exact this
        have HD := Aside0.mk hd
        clear hd
        gi_wp2
        refine ⟨by simp, .inl ⟨_, _, rfl, run_takeDeferred hK, ?_⟩⟩
        have f2 := tu_cell_put (D := D) (o := .deferred none) q2 (by omega)
        have f3 := tu_cell_put (D := D) (o := .deferred none) q3 (by omega)
        have f4 := tu_cell_put (D := D) (o := .deferred none) q4 (by omega)
        refine ⟨.tuple #[.pointer (some ⟨wr.heap.size, 0, none⟩), .int .i64 (m : Nat), .int .i64 e], ?_, wr.heap.size, wr.heap.size, by rw [HD.out], by omega, ?_, ?_⟩
        · simp [results, Try.f14, go_sem, f2, f3, f4]
        · rw [HD.out]
          exact td_kept hI (grownBy_putObj' _ D (.deferred none)) (fun r e => by cases e; exact ⟨_, hK, rfl⟩)
        · exact Below.trans hB (belowK_b (w := w) (Nat.le_refl _) _ D _ _ (by omega) hK rfl rfl)
end

end Go.Proofs.Ytbfepcajbbeheaa.P

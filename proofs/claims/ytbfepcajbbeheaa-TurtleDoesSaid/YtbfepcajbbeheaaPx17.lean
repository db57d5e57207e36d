-- Written by a program of this session (wip/tools/hp.py) out of the translation.
import Derived.Test.YtbfepcajbbeheaaPx0
import Derived.Test.YtbfepcajbbeheaaPx1
import Derived.Test.YtbfepcajbbeheaaPx8
import Derived.Test.YtbfepcajbbeheaaPx9
import Derived.Test.YtbfepcajbbeheaaPx11
import Derived.Test.YtbfepcajbbeheaaPx12
import Derived.Test.YtbfepcajbbeheaaPx14
import Derived.Test.YtbfepcajbbeheaaPx16
namespace Go.Proofs.Ytbfepcajbbeheaa.P
open Go.RowKit Go.Proofs.YtbfepcajbbeheaaW.PrintWords Go.Proofs.YtbfepcajbbeheaaW.PrintLast Go.Proofs.YtbfepcajbbeheaaW.PrintMore
attribute [local go_sem] max2_int min2_int max_two min_two max_three min_three max_four min_four   -- for this text's walks alone
set_option linter.unusedVariables false
set_option linter.unusedSimpArgs false

/-! ### pascalinelaw32_TurtleDoes: function 3 -/
open Go.Proofs.Ytbfepcajbbeheaa.C
def pascalinelaw32_TurtleDoes.f (l0 : List S33) : Option Bool := if ∀ x ∈ l0, -2147483648 ≤ x.f1 ∧ x.f1 ≤ 2147483647 then some true else none
theorem td_rows {w w' : World} {B : Nat} {u : Value} {l : List S70} {ok : Nat → Prop} (hR : Kd.R k70 70 w B ok u l) (hm : ∀ (k : Nat) (cs : Array Value) (f : Nat × Nat), w.heap[k]? = some (.cells cs 70 f) → w'.heap[k]? = w.heap[k]?) : Kd.R k70 70 w' B (fun _ => True) u l := by
  refine Kd.R_mono (Kd.R_step (Kd.R_tight rfl hR) (fun k hk2 hlt => ?_)) (fun _ _ => trivial)
  obtain ⟨cells, hc⟩ := Kd.R_typed hR k hk2.symm
  exact hm _ _ _ hc
theorem td_kept1 {w w' : World} {B : Nat} {u : Value} {l : List S70} {ok : Nat → Prop} (hR : Kd.R k70 70 w B ok u l) (hk : Kept w w' (fun k => some k = u.ownBlock)) {k : Nat} {cs : Array Value} {t : TypeId} {f : Nat × Nat} (e : w.heap[k]? = some (.cells cs t f)) (ht : t ≠ 70) : w'.heap[k]? = w.heap[k]? := by
  refine hk.2 k (blk_lt e) (fun hu => ?_)
  obtain ⟨cells, hc⟩ := Kd.R_typed hR k hu.symm
  rw [e] at hc
  injection hc with hc
  injection hc with _ e2
  exact ht e2
theorem td_S {w0 W : World} {B bx : Nat} {v0 v1 v2 v3 v4 v5 v6 l0 l1 : Value} {p0 p1 : Addr} {t : TypeId} (h : W.heap[bx]? = some (.cells #[v0, v1, v2, v3, v4, v5, v6] t (0, 0))) (hb : Below w0.heap.size w0 W) (h0 : w0.cell? p0 = some l0) (h1 : w0.cell? p1 = some l1) :
    W.cell? ⟨bx, 0, none⟩ = some v0 ∧ W.cell? ⟨bx, 1, none⟩ = some v1 ∧ W.cell? ⟨bx, 2, none⟩ = some v2 ∧ W.cell? ⟨bx, 3, none⟩ = some v3 ∧ W.cell? ⟨bx, 4, none⟩ = some v4 ∧ W.cell? ⟨bx, 5, none⟩ = some v5 ∧ W.cell? ⟨bx, 6, none⟩ = some v6 ∧ W.cell? p0 = some l0 ∧ W.cell? p1 = some l1 :=
  ⟨blk_cell h 0, blk_cell h 1, blk_cell h 2, blk_cell h 3, blk_cell h 4, blk_cell h 5, blk_cell h 6, pw_cell_below hb h0, pw_cell_below hb h1⟩
set_option maxHeartbeats 2000000 in
theorem td_put7 {w0 w : World} {B bx : Nat} {a0 a1 a2 a3 a4 a5 a6 b0 b1 b2 b3 b4 b5 b6 : Value} {t : TypeId} (h : w.heap[bx]? = some (.cells #[a0, a1, a2, a3, a4, a5, a6] t (0, 0))) (hB : Below B w0 w) (hle : B ≤ bx) :
    (((((((w.setCell ⟨bx, 0, none⟩ b0).setCell ⟨bx, 1, none⟩ b1).setCell ⟨bx, 2, none⟩ b2).setCell ⟨bx, 3, none⟩ b3).setCell ⟨bx, 4, none⟩ b4).setCell ⟨bx, 5, none⟩ b5).setCell ⟨bx, 6, none⟩ b6).heap[bx]? = some (.cells #[b0, b1, b2, b3, b4, b5, b6] t (0, 0)) ∧
    (∀ k, k ≠ bx → (((((((w.setCell ⟨bx, 0, none⟩ b0).setCell ⟨bx, 1, none⟩ b1).setCell ⟨bx, 2, none⟩ b2).setCell ⟨bx, 3, none⟩ b3).setCell ⟨bx, 4, none⟩ b4).setCell ⟨bx, 5, none⟩ b5).setCell ⟨bx, 6, none⟩ b6).heap[k]? = w.heap[k]?) ∧
    Below B w0 (((((((w.setCell ⟨bx, 0, none⟩ b0).setCell ⟨bx, 1, none⟩ b1).setCell ⟨bx, 2, none⟩ b2).setCell ⟨bx, 3, none⟩ b3).setCell ⟨bx, 4, none⟩ b4).setCell ⟨bx, 5, none⟩ b5).setCell ⟨bx, 6, none⟩ b6) := by
  refine ⟨blk_put (blk_put (blk_put (blk_put (blk_put (blk_put (blk_put h 0 b0 rfl) 1 b1 rfl) 2 b2 rfl) 3 b3 rfl) 4 b4 rfl) 5 b5 rfl) 6 b6 rfl, fun k hk => ?_, ((((((hB.setCell (p := ⟨bx, 0, none⟩) hle _).setCell (p := ⟨bx, 1, none⟩) hle _).setCell (p := ⟨bx, 2, none⟩) hle _).setCell (p := ⟨bx, 3, none⟩) hle _).setCell (p := ⟨bx, 4, none⟩) hle _).setCell (p := ⟨bx, 5, none⟩) hle _).setCell (p := ⟨bx, 6, none⟩) hle _⟩
  exact (Below.heap_setCell _ _ _ k hk).trans ((Below.heap_setCell _ _ _ k hk).trans ((Below.heap_setCell _ _ _ k hk).trans ((Below.heap_setCell _ _ _ k hk).trans ((Below.heap_setCell _ _ _ k hk).trans ((Below.heap_setCell _ _ _ k hk).trans (Below.heap_setCell _ _ _ k hk))))))
set_option maxRecDepth 100000 in
set_option maxHeartbeats 8000000 in
theorem pascalinelaw32_TurtleDoes.calls (A0 : Option Addr) (c0 : Nat) (l0 : List S33) (r : Bool) (w : World) (hr0 : Kd.C k33 w A0 l0.length l0) (hc0 : l0.length ≤ c0) (h : pascalinelaw32_TurtleDoes.f l0 = some r) :
    Calls Try.prog 3 #[.slice A0 l0.length c0] w fun e w' => e = .returned (.bool r) ∧ Below w.heap.size w w' := by
  have hg : (∀ x ∈ l0, -2147483648 ≤ x.f1 ∧ x.f1 ≤ 2147483647) ∧ r = true := by
    unfold pascalinelaw32_TurtleDoes.f at h
    split at h
    · rename_i h1
      injection h with h
      exact ⟨h1, h.symm⟩
    · cases h
  obtain ⟨hgood, rfl⟩ := hg
  have hlen : l0.length ≤ 9223372036854775807 := hr0.2.1
  have HC := Aside0.mk hr0; have HCC := Aside0.mk hc0; have HGD := Aside0.mk hgood; have HLN := Aside0.mk hlen
  clear hr0 hc0 h hgood hlen
  go_enter Try.func3, Try.ntmps3
  go_wp2_with (first | (go_at_call 8; (with_reducible refine (tu_awake_calls _).mono ?_); rintro e w1 ⟨rfl, hb⟩; have HB1 := Aside0.mk hb; clear hb) | (go_at_call 9; (with_reducible refine (tu_new_calls w1).mono ?_); rintro e w2 ⟨rfl, hI, hb⟩; have HI := Aside0.mk hI; have HB2 := Aside0.mk (below_step HB1.out hb); clear hI hb) | (go_at_call 10; (with_reducible refine (pascalineref32_New.calls 0 0 1 0 1 true [] w2 rfl).mono ?_); rintro e w3 ⟨v6, rfl, hR, hb⟩; have HI3 := Aside0.mk (td_below HI.out hb); have HR3 := Aside0.mk (Kd.R_lower hR HB2.out.size); have HB3 := Aside0.mk (below_step HB2.out hb); obtain ⟨A6, c6, e6, h6⟩ := Kd.R_reads hR; subst e6; clear hR hb h6))
  obtain ⟨W4, hW4⟩ : ∃ W4, w3.alloc (.cells #[.int .i64 0, .int .i64 0, .int .i64 1, .int .i64 0, .int .i64 1, .bool true, .slice A6 0 c6] 28) = W4 := ⟨_, rfl⟩
  have hbx := blk_new w3 (.cells #[.int .i64 0, .int .i64 0, .int .i64 1, .int .i64 0, .int .i64 1, .bool true, .slice A6 0 c6] 28)
  have hb4 : Below w3.heap.size w3 (w3.alloc (.cells #[.int .i64 0, .int .i64 0, .int .i64 1, .int .i64 0, .int .i64 1, .bool true, .slice A6 0 c6] 28)) := below_alloc (Below.refl _ _) _
  rw [hW4] at hbx hb4 ⊢
  have HI4 := Aside0.mk (td_below HI3.out hb4)
  have HR4 := Aside0.mk (Kd.R_below HR3.out hb4)
  have HB4 := Aside0.mk (below_step HB3.out hb4)
  have HBX := Aside0.mk hbx
  have h31 : w1.heap.size ≤ w3.heap.size := by have := (tu_le HI3.out).1; omega
  have h01 := HB1.out.size
  have H31W := Aside0.mk (show w.heap.size ≤ w3.heap.size by omega); have H31 := Aside0.mk h31; have H01 := Aside0.mk h01
  clear hW4 hbx hb4 h31 h01
  go_loopg [5] 101 (fun kx v5 wr => ∃ (i : Nat) (T : Tu) (A : Option Addr) (c : Nat), v5 = .int .i64 i ∧ Aside0 (i + kx = 101 ∧ i ≤ 100 ∧ i ≤ l0.length) ∧ Aside0 (IsT w1.heap.size wr w1.heap.size T) ∧ Aside0 (TuOk T ∧ T.l.length ≤ i ∧ ∀ x ∈ T.l, tu_on x) ∧ Aside0 (wr.heap[w3.heap.size]? = some (.cells #[.int .i64 T.x, .int .i64 T.y, .int .i64 T.dx, .int .i64 T.dy, .int .i64 T.st, .bool T.dn, .slice A T.l.length c] 28 (0, 0))) ∧ Aside0 (Kd.R k70 70 wr w.heap.size (fun _ => True) (.slice A T.l.length c) T.l) ∧ Aside0 (Below w.heap.size w wr))
  case atStart => exact ⟨0, tu0, A6, c6, rfl, ⟨⟨by omega, by omega, Nat.zero_le _⟩⟩, HI4, ⟨⟨tu0_ok, Nat.zero_le _, fun x hx => by cases hx⟩⟩, HBX, HR4, HB4⟩
  case round =>
    obtain ⟨i, T, A, c, rfl, HI5, HT5, HO5, HX5, HR5, HB5⟩ := hrel
    by_cases hi : i < l0.length
    · have p1 : decide ((i : Int) < (l0.length : Int)) = true := decide_eq_true (by omega)
      have p2 : decide (i < l0.length) = true := decide_eq_true hi
      have p3 : ((i : Int) < (l0.length : Int)) = True := eq_true (by omega)
      by_cases h100 : i < 100
      · have p4 : decide ((i : Int) < 100) = true := decide_eq_true (by omega)
        have p5 : ((i : Int) < 100) = True := eq_true (by omega)
        have p6 : decide (i < 100) = true := decide_eq_true h100
        obtain ⟨ad, e, hx0, hx1⟩ := at_T33 HC.out (i : Int) (by omega) (by omega)
        cases e
        rw [Int.toNat_natCast] at hx0 hx1
        have er : rd_T33 l0 (i : Int) = l0[i] := by unfold rd_T33; rw [Int.toNat_natCast]; simp [hi]
        rw [er] at hx0 hx1
        have hgd := HGD.out l0[i] (List.getElem_mem hi)
        generalize l0[i] = z at hx0 hx1 hgd
        obtain ⟨wh, mu⟩ := z
        dsimp only at hx0 hx1 hgd
        have HW0 := Aside0.mk hx0; have HW1 := Aside0.mk hx1
        replace hx0 := pw_cell_below HB5.out hx0
        replace hx1 := pw_cell_below HB5.out hx1
        have hdo := tu_ref_do HO5.out.1 (by have := HO5.out.2.1; omega) wh mu hgd 0
        have hok := tu_do_ok HO5.out.1 wh mu
        have hln := tu_do_len T wh mu
        have hon := tu_do_on HO5.out.1 HO5.out.2.2 wh mu
        obtain ⟨T2, e2, hT2⟩ : ∃ T2 e2, tu_do T wh mu = (T2, e2) := ⟨_, _, rfl⟩
        rw [hT2] at hdo hok hln hon
        dsimp only at hdo hok hln hon
        have HDO := Aside0.mk (show pascalineref32_Do.f 8 T.x T.y T.dx T.dy T.st T.dn T.l wh mu = some (T2.x, T2.y, T2.dx, T2.dy, T2.st, T2.dn, T2.l, e2) from hdo); have HT2 := Aside0.mk hT2; have HO2 := Aside0.mk (show TuOk T2 ∧ T2.l.length ≤ i + 1 ∧ ∀ x ∈ T2.l, tu_on x from ⟨hok, by have := HO5.out.2.1; omega, hon⟩)
        have k0 : wr.cell? ⟨w3.heap.size, 0, none⟩ = some (.int .i64 T.x) := blk_cell HX5.out 0
        have k1 : wr.cell? ⟨w3.heap.size, 1, none⟩ = some (.int .i64 T.y) := blk_cell HX5.out 1
        have k2 : wr.cell? ⟨w3.heap.size, 2, none⟩ = some (.int .i64 T.dx) := blk_cell HX5.out 2
        have k3 : wr.cell? ⟨w3.heap.size, 3, none⟩ = some (.int .i64 T.dy) := blk_cell HX5.out 3
        have k4 : wr.cell? ⟨w3.heap.size, 4, none⟩ = some (.int .i64 T.st) := blk_cell HX5.out 4
        have k5 : wr.cell? ⟨w3.heap.size, 5, none⟩ = some (.bool T.dn) := blk_cell HX5.out 5
        have k6 : wr.cell? ⟨w3.heap.size, 6, none⟩ = some (.slice A T.l.length c) := blk_cell HX5.out 6
        have HJ := Aside0.mk hi; have HJ2 := Aside0.mk h100
        have HXD := Aside0.mk (show wr.drew.heap[w3.heap.size]? = some (.cells #[.int .i64 T.x, .int .i64 T.y, .int .i64 T.dx, .int .i64 T.dy, .int .i64 T.st, .bool T.dn, .slice A T.l.length c] 28 (0, 0)) from HX5.out)
        have HRD := Aside0.mk (Kd.R_drew HR5.out)
        have HBD := Aside0.mk (below_drew HB5.out)
        have HTD := Aside0.mk (show IsT w1.heap.size wr.drew w1.heap.size T from HT5.out)
        have HXD2 := Aside0.mk (show ((wr.alloc (.cells #[.int .i64 0, .int .i64 0, .int .i64 0, .int .i64 0, .int .i64 0, .bool false, .slice none 0 0] 28)).drew).heap[w3.heap.size]? = some (.cells #[.int .i64 T.x, .int .i64 T.y, .int .i64 T.dx, .int .i64 T.dy, .int .i64 T.st, .bool T.dn, .slice A T.l.length c] 28 (0, 0)) from blk_alloc HX5.out _)
        have HND2 := Aside0.mk (show ((wr.alloc (.cells #[.int .i64 0, .int .i64 0, .int .i64 0, .int .i64 0, .int .i64 0, .bool false, .slice none 0 0] 28)).drew).heap[wr.heap.size]? = some (.cells #[.int .i64 0, .int .i64 0, .int .i64 0, .int .i64 0, .int .i64 0, .bool false, .slice none 0 0] 28 (0, 0)) from blk_new wr _)
        have HRD2 := Aside0.mk (show Kd.R k70 70 ((wr.alloc (.cells #[.int .i64 0, .int .i64 0, .int .i64 0, .int .i64 0, .int .i64 0, .bool false, .slice none 0 0] 28)).drew) w.heap.size (fun _ => True) (.slice A T.l.length c) T.l from Kd.R_drew (Kd.R_alloc HR5.out _))
        have HBD2 := Aside0.mk (show Below w.heap.size w ((wr.alloc (.cells #[.int .i64 0, .int .i64 0, .int .i64 0, .int .i64 0, .int .i64 0, .bool false, .slice none 0 0] 28)).drew) from below_drew (below_alloc HB5.out _))
        have HTD2 := Aside0.mk (show IsT w1.heap.size ((wr.alloc (.cells #[.int .i64 0, .int .i64 0, .int .i64 0, .int .i64 0, .int .i64 0, .bool false, .slice none 0 0] 28)).drew) w1.heap.size T from td_below HT5.out (below_drew (below_alloc (Below.refl _ _) _)))
        have HWS := Aside0.mk HB5.out.size
        have HNE0 := Aside0.mk (Nat.ne_of_lt (blk_lt HX5.out))
        have nw0 := World.new_ne wr ⟨w3.heap.size, 0, none⟩ k0
        have nw1 := World.new_ne wr (ad.add (i * 2)) hx0
        dsimp only at nw0
        clear hdo hok hln hon hT2 hgd er h100
        go_wp2
        go_region_held3 (fun w' => w'.cell? ⟨w3.heap.size, 0, none⟩ = some (.int .i64 T.x) ∧ w'.cell? ⟨w3.heap.size, 1, none⟩ = some (.int .i64 T.y) ∧ w'.cell? ⟨w3.heap.size, 2, none⟩ = some (.int .i64 T.dx) ∧ w'.cell? ⟨w3.heap.size, 3, none⟩ = some (.int .i64 T.dy) ∧ w'.cell? ⟨w3.heap.size, 4, none⟩ = some (.int .i64 T.st) ∧ w'.cell? ⟨w3.heap.size, 5, none⟩ = some (.bool T.dn) ∧ w'.cell? ⟨w3.heap.size, 6, none⟩ = some (.slice A T.l.length c) ∧ w'.cell? (ad.add (i * 2)) = some (.int .i32 wh) ∧ w'.cell? ⟨(ad.add (i * 2)).block, (ad.add (i * 2)).off + 1, none⟩ = some (.int .i32 mu)) (first | with_reducible exact ⟨k0, k1, k2, k3, k4, k5, k6, hx0, hx1⟩ | with_reducible exact ⟨u0, u1, u2, u3, u4, u5, u6, u7, u8⟩ | go_keep) (first | (go_at_call 11; (with_reducible refine (pascalineref32_Do.calls 8 T.x T.y T.dx T.dy T.st T.dn (fun k => some k = (.slice A T.l.length c : Value).ownBlock) (.slice A T.l.length c) T.l wh mu T2.x T2.y T2.dx T2.dy T2.st T2.dn T2.l e2 w wr.drew HBD.out (Kd.R_tight rfl HRD.out) HDO.out).mono ?_); rintro e w6 ⟨v6, rfl, hR6, hB6, hK6⟩; obtain ⟨A7, c7, e7, h7⟩ := Kd.R_reads hR6; subst e7; clear h7; have hx6 := (td_kept1 HRD.out hK6 HXD.out (show 28 ≠ 70 by decide)).trans HXD.out; have u0 : w6.cell? ⟨w3.heap.size, 0, none⟩ = some (.int .i64 T.x) := (blk_cell hx6 0).trans rfl; have u1 : w6.cell? ⟨w3.heap.size, 1, none⟩ = some (.int .i64 T.y) := (blk_cell hx6 1).trans rfl; have u2 : w6.cell? ⟨w3.heap.size, 2, none⟩ = some (.int .i64 T.dx) := (blk_cell hx6 2).trans rfl; have u3 : w6.cell? ⟨w3.heap.size, 3, none⟩ = some (.int .i64 T.dy) := (blk_cell hx6 3).trans rfl; have u4 : w6.cell? ⟨w3.heap.size, 4, none⟩ = some (.int .i64 T.st) := (blk_cell hx6 4).trans rfl; have u5 : w6.cell? ⟨w3.heap.size, 5, none⟩ = some (.bool T.dn) := (blk_cell hx6 5).trans rfl; have u6 : w6.cell? ⟨w3.heap.size, 6, none⟩ = some (.slice A T.l.length c) := (blk_cell hx6 6).trans rfl; have u7 : w6.cell? (ad.add (i * 2)) = some (.int .i32 wh) := pw_cell_below hB6 HW0.out; have u8 : w6.cell? ⟨(ad.add (i * 2)).block, (ad.add (i * 2)).off + 1, none⟩ = some (.int .i32 mu) := pw_cell_below hB6 HW1.out; have HIT6 := Aside0.mk (td_move HTD.out (fun k cs t f e ht => td_kept1 HRD.out hK6 e (by rcases ht with rfl | rfl <;> decide))); have HX6 := Aside0.mk hx6; have HR6 := Aside0.mk hR6; have HB6 := Aside0.mk hB6; clear hx6 hR6 hB6 hK6) | (go_at_call 11; (with_reducible refine (pascalineref32_Do.calls 8 T.x T.y T.dx T.dy T.st T.dn (fun k => some k = (.slice A T.l.length c : Value).ownBlock) (.slice A T.l.length c) T.l wh mu T2.x T2.y T2.dx T2.dy T2.st T2.dn T2.l e2 w (wr.alloc (.cells #[.int .i64 0, .int .i64 0, .int .i64 0, .int .i64 0, .int .i64 0, .bool false, .slice none 0 0] 28)).drew HBD2.out (Kd.R_tight rfl HRD2.out) HDO.out).mono ?_); rintro e w6 ⟨v6, rfl, hR6, hB6, hK6⟩; obtain ⟨A7, c7, e7, h7⟩ := Kd.R_reads hR6; subst e7; clear h7; have hx6 := (td_kept1 HRD2.out hK6 HXD2.out (show 28 ≠ 70 by decide)).trans HXD2.out; have hn6 := (td_kept1 HRD2.out hK6 HND2.out (show 28 ≠ 70 by decide)).trans HND2.out; have u0 : w6.cell? ⟨w3.heap.size, 0, none⟩ = some (.int .i64 T.x) := (blk_cell hx6 0).trans rfl; have u1 : w6.cell? ⟨w3.heap.size, 1, none⟩ = some (.int .i64 T.y) := (blk_cell hx6 1).trans rfl; have u2 : w6.cell? ⟨w3.heap.size, 2, none⟩ = some (.int .i64 T.dx) := (blk_cell hx6 2).trans rfl; have u3 : w6.cell? ⟨w3.heap.size, 3, none⟩ = some (.int .i64 T.dy) := (blk_cell hx6 3).trans rfl; have u4 : w6.cell? ⟨w3.heap.size, 4, none⟩ = some (.int .i64 T.st) := (blk_cell hx6 4).trans rfl; have u5 : w6.cell? ⟨w3.heap.size, 5, none⟩ = some (.bool T.dn) := (blk_cell hx6 5).trans rfl; have u6 : w6.cell? ⟨w3.heap.size, 6, none⟩ = some (.slice A T.l.length c) := (blk_cell hx6 6).trans rfl; have u7 : w6.cell? (ad.add (i * 2)) = some (.int .i32 wh) := pw_cell_below hB6 HW0.out; have u8 : w6.cell? ⟨(ad.add (i * 2)).block, (ad.add (i * 2)).off + 1, none⟩ = some (.int .i32 mu) := pw_cell_below hB6 HW1.out; have n6_0 : w6.cell? ⟨wr.heap.size, 0, none⟩ = some (.int .i64 0) := (blk_cell hn6 0).trans rfl; have z6_0 := blk_frozen hn6 0; have n6_1 : w6.cell? ⟨wr.heap.size, 1, none⟩ = some (.int .i64 0) := (blk_cell hn6 1).trans rfl; have z6_1 := blk_frozen hn6 1; have n6_2 : w6.cell? ⟨wr.heap.size, 2, none⟩ = some (.int .i64 0) := (blk_cell hn6 2).trans rfl; have z6_2 := blk_frozen hn6 2; have n6_3 : w6.cell? ⟨wr.heap.size, 3, none⟩ = some (.int .i64 0) := (blk_cell hn6 3).trans rfl; have z6_3 := blk_frozen hn6 3; have n6_4 : w6.cell? ⟨wr.heap.size, 4, none⟩ = some (.int .i64 0) := (blk_cell hn6 4).trans rfl; have z6_4 := blk_frozen hn6 4; have n6_5 : w6.cell? ⟨wr.heap.size, 5, none⟩ = some (.bool false) := (blk_cell hn6 5).trans rfl; have z6_5 := blk_frozen hn6 5; have n6_6 : w6.cell? ⟨wr.heap.size, 6, none⟩ = some (.slice none 0 0) := (blk_cell hn6 6).trans rfl; have z6_6 := blk_frozen hn6 6; have HIT6 := Aside0.mk (td_move HTD2.out (fun k cs t f e ht => td_kept1 HRD2.out hK6 e (by rcases ht with rfl | rfl <;> decide))); have HX6 := Aside0.mk hx6; have HN6 := Aside0.mk hn6; have HR6 := Aside0.mk hR6; have HB6 := Aside0.mk hB6; clear hx6 hn6 hR6 hB6 hK6))
        · skip
          have x1 := blk_alloc HX6.out (.cells #[.int .i64 T2.x, .int .i64 T2.y, .int .i64 T2.dx, .int .i64 T2.dy, .int .i64 T2.st, .bool T2.dn, .slice A7 T2.l.length c7] 28)
          have x2 := blk_new w6 (.cells #[.int .i64 T2.x, .int .i64 T2.y, .int .i64 T2.dx, .int .i64 T2.dy, .int .i64 T2.st, .bool T2.dn, .slice A7 T2.l.length c7] 28)
          have x3 := td_below HIT6.out (below_alloc (Below.refl w6.heap.size w6) (.cells #[.int .i64 T2.x, .int .i64 T2.y, .int .i64 T2.dx, .int .i64 T2.dy, .int .i64 T2.st, .bool T2.dn, .slice A7 T2.l.length c7] 28))
          have x4 := Kd.R_mono (ok' := fun _ => True) (Kd.R_alloc HR6.out (.cells #[.int .i64 T2.x, .int .i64 T2.y, .int .i64 T2.dx, .int .i64 T2.dy, .int .i64 T2.st, .bool T2.dn, .slice A7 T2.l.length c7] 28)) (fun _ _ => trivial)
          have x5 := below_alloc HB6.out (.cells #[.int .i64 T2.x, .int .i64 T2.y, .int .i64 T2.dx, .int .i64 T2.dy, .int .i64 T2.st, .bool T2.dn, .slice A7 T2.l.length c7] 28)
          have x6 := Nat.ne_of_lt (blk_lt HX6.out)
          have x7 := HB6.out.size
          clear u0 u1 u2 u3 u4 u5 u6 u7 u8 k0 k1 k2 k3 k4 k5 k6 hx0 hx1 nw0 nw1
          generalize w6.alloc (.cells #[.int .i64 T2.x, .int .i64 T2.y, .int .i64 T2.dx, .int .i64 T2.dy, .int .i64 T2.st, .bool T2.dn, .slice A7 T2.l.length c7] 28) = Wf at x1 x2 x3 x4 x5 ⊢
          generalize w6.heap.size = nb at x2 x6 x7 ⊢
          have HXT := Aside0.mk (show IsT w1.heap.size Wf.drew w1.heap.size T from x3)
          have HXN := Aside0.mk (show Wf.drew.heap[nb]? = some (.cells #[.int .i64 T2.x, .int .i64 T2.y, .int .i64 T2.dx, .int .i64 T2.dy, .int .i64 T2.st, .bool T2.dn, .slice A7 T2.l.length c7] 28 (0, 0)) from x2)
          have HXX := Aside0.mk (show Wf.drew.heap[w3.heap.size]? = some (.cells #[.int .i64 T.x, .int .i64 T.y, .int .i64 T.dx, .int .i64 T.dy, .int .i64 T.st, .bool T.dn, .slice A T.l.length c] 28 (0, 0)) from x1)
          have HXB := Aside0.mk (below_drew x5)
          have HXR := Aside0.mk (Kd.R_drew x4)
          have HTL := Aside0.mk (show T.l.length ≤ 900000 by have h1 := HO5.out.2.1; have h2 := HI5.out.2.1; omega)
          have HL2 := Aside0.mk (show T2.l.length ≤ 100000 by have h1 := HO2.out.2.1; have h2 := HI5.out.2.1; omega)
          have HBS := Aside0.mk (show w1.heap.size ≤ Wf.drew.heap.size by have := tu_le HXT.out; omega)
          have r0 : Wf.cell? ⟨nb, 0, none⟩ = some (.int .i64 T2.x) := (blk_cell x2 0).trans rfl
          have r1 : Wf.cell? ⟨nb, 1, none⟩ = some (.int .i64 T2.y) := (blk_cell x2 1).trans rfl
          have r2 : Wf.cell? ⟨nb, 2, none⟩ = some (.int .i64 T2.dx) := (blk_cell x2 2).trans rfl
          have r3 : Wf.cell? ⟨nb, 3, none⟩ = some (.int .i64 T2.dy) := (blk_cell x2 3).trans rfl
          have r4 : Wf.cell? ⟨nb, 4, none⟩ = some (.int .i64 T2.st) := (blk_cell x2 4).trans rfl
          have r5 : Wf.cell? ⟨nb, 5, none⟩ = some (.bool T2.dn) := (blk_cell x2 5).trans rfl
          have r6 : Wf.cell? ⟨nb, 6, none⟩ = some (.slice A7 T2.l.length c7) := (blk_cell x2 6).trans rfl
          have r7 : Wf.cell? (ad.add (i * 2)) = some (.int .i32 wh) := pw_cell_below x5 HW0.out
          have r8 : Wf.cell? ⟨(ad.add (i * 2)).block, (ad.add (i * 2)).off + 1, none⟩ = some (.int .i32 mu) := pw_cell_below x5 HW1.out
          have hee : (e2 != e2) = false := by simp
          clear x1 x2 x3 x4 x5
          go_wp2
          go_region_held3 (fun w' => w'.cell? ⟨nb, 0, none⟩ = some (.int .i64 T2.x) ∧ w'.cell? ⟨nb, 1, none⟩ = some (.int .i64 T2.y) ∧ w'.cell? ⟨nb, 2, none⟩ = some (.int .i64 T2.dx) ∧ w'.cell? ⟨nb, 3, none⟩ = some (.int .i64 T2.dy) ∧ w'.cell? ⟨nb, 4, none⟩ = some (.int .i64 T2.st) ∧ w'.cell? ⟨nb, 5, none⟩ = some (.bool T2.dn) ∧ w'.cell? ⟨nb, 6, none⟩ = some (.slice A7 T2.l.length c7) ∧ w'.cell? (ad.add (i * 2)) = some (.int .i32 wh) ∧ w'.cell? ⟨(ad.add (i * 2)).block, (ad.add (i * 2)).off + 1, none⟩ = some (.int .i32 mu)) (first | with_reducible exact ⟨t0, t1, t2, t3, t4, t5, t6, t7, t8⟩ | with_reducible exact ⟨s0, s1, s2, s3, s4, s5, s6, s7, s8⟩ | with_reducible exact ⟨r0, r1, r2, r3, r4, r5, r6, r7, r8⟩ | go_keep) (first | (go_at_call 12; (with_reducible refine (tu_do_calls w1.heap.size w1.heap.size T wh mu _ HXT.out HO5.out.1 HTL.out HBS.out).mono ?_); rintro e w7 ⟨rfl, hI7, hb7⟩; rw [HT2.out] at hI7 ⊢; have hn7 := hb7.cells HXN.out (show 28 ≠ 51 by decide) (show 28 ≠ 68 by decide); have hbx7 := hb7.cells HXX.out (show 28 ≠ 51 by decide) (show 28 ≠ 68 by decide); have hB7 := HXB.out.trans (hb7.below.mono H01.out); have t0 : w7.cell? ⟨nb, 0, none⟩ = some (.int .i64 T2.x) := (blk_cell hn7 0).trans rfl; have t1 : w7.cell? ⟨nb, 1, none⟩ = some (.int .i64 T2.y) := (blk_cell hn7 1).trans rfl; have t2 : w7.cell? ⟨nb, 2, none⟩ = some (.int .i64 T2.dx) := (blk_cell hn7 2).trans rfl; have t3 : w7.cell? ⟨nb, 3, none⟩ = some (.int .i64 T2.dy) := (blk_cell hn7 3).trans rfl; have t4 : w7.cell? ⟨nb, 4, none⟩ = some (.int .i64 T2.st) := (blk_cell hn7 4).trans rfl; have t5 : w7.cell? ⟨nb, 5, none⟩ = some (.bool T2.dn) := (blk_cell hn7 5).trans rfl; have t6 : w7.cell? ⟨nb, 6, none⟩ = some (.slice A7 T2.l.length c7) := (blk_cell hn7 6).trans rfl; have t7 : w7.cell? (ad.add (i * 2)) = some (.int .i32 wh) := pw_cell_below hB7 HW0.out; have t8 : w7.cell? ⟨(ad.add (i * 2)).block, (ad.add (i * 2)).off + 1, none⟩ = some (.int .i32 mu) := pw_cell_below hB7 HW1.out; have hR7 := td_rows HXR.out (fun k cs f e => (hb7.keep k _ e (fun cs' f' he => by cases he) (fun cs' f' he => by cases he)).trans e.symm); obtain ⟨A9, c9, e9, hc9, hC9⟩ := Kd.R_reads hR7; cases e9; have HC9 := Aside0.mk hC9; have HI7 := Aside0.mk hI7; have HN7 := Aside0.mk hn7; have HX7 := Aside0.mk hbx7; have HB7 := Aside0.mk hB7; have HR7 := Aside0.mk hR7; clear hn7 hbx7 hB7 hR7 hC9 hc9 hI7 hb7) | (go_at_call 13; (with_reducible refine (tu_is_calls w1.heap.size w1.heap.size T2 A7 c7 w7 HI7.out HO2.out.1 HL2.out HO2.out.2.2 HC9.out).mono ?_); rintro e w8 ⟨rfl, hb8⟩; have hn8 := (hb8.block _ (blk_lt HN7.out)).trans HN7.out; have hx8 := (hb8.block _ (blk_lt HX7.out)).trans HX7.out; have hB8 := below_step HB7.out hb8; have s0 : w8.cell? ⟨nb, 0, none⟩ = some (.int .i64 T2.x) := (blk_cell hn8 0).trans rfl; have s1 : w8.cell? ⟨nb, 1, none⟩ = some (.int .i64 T2.y) := (blk_cell hn8 1).trans rfl; have s2 : w8.cell? ⟨nb, 2, none⟩ = some (.int .i64 T2.dx) := (blk_cell hn8 2).trans rfl; have s3 : w8.cell? ⟨nb, 3, none⟩ = some (.int .i64 T2.dy) := (blk_cell hn8 3).trans rfl; have s4 : w8.cell? ⟨nb, 4, none⟩ = some (.int .i64 T2.st) := (blk_cell hn8 4).trans rfl; have s5 : w8.cell? ⟨nb, 5, none⟩ = some (.bool T2.dn) := (blk_cell hn8 5).trans rfl; have s6 : w8.cell? ⟨nb, 6, none⟩ = some (.slice A7 T2.l.length c7) := (blk_cell hn8 6).trans rfl; have s7 : w8.cell? (ad.add (i * 2)) = some (.int .i32 wh) := pw_cell_below hB8 HW0.out; have s8 : w8.cell? ⟨(ad.add (i * 2)).block, (ad.add (i * 2)).off + 1, none⟩ = some (.int .i32 mu) := pw_cell_below hB8 HW1.out; have HI8 := Aside0.mk (td_below HI7.out hb8); have HN8 := Aside0.mk hn8; have HX8 := Aside0.mk hx8; have HB8 := Aside0.mk hB8; have HR8 := Aside0.mk (Kd.R_below HR7.out hb8); clear hn8 hx8 hB8 hb8))
          have hb0 := blk_frozen HX8.out 0; have hb1 := blk_frozen HX8.out 1; have hb2 := blk_frozen HX8.out 2; have hb3 := blk_frozen HX8.out 3; have hb4 := blk_frozen HX8.out 4; have hb5 := blk_frozen HX8.out 5; have hb6 := blk_frozen HX8.out 6
          have g0 : w8.cell? ⟨w3.heap.size, 0, none⟩ = some (.int .i64 T.x) := (blk_cell HX8.out 0).trans rfl
          have g1 : w8.cell? ⟨w3.heap.size, 1, none⟩ = some (.int .i64 T.y) := (blk_cell HX8.out 1).trans rfl
          have g2 : w8.cell? ⟨w3.heap.size, 2, none⟩ = some (.int .i64 T.dx) := (blk_cell HX8.out 2).trans rfl
          have g3 : w8.cell? ⟨w3.heap.size, 3, none⟩ = some (.int .i64 T.dy) := (blk_cell HX8.out 3).trans rfl
          have g4 : w8.cell? ⟨w3.heap.size, 4, none⟩ = some (.int .i64 T.st) := (blk_cell HX8.out 4).trans rfl
          have g5 : w8.cell? ⟨w3.heap.size, 5, none⟩ = some (.bool T.dn) := (blk_cell HX8.out 5).trans rfl
          have g6 : w8.cell? ⟨w3.heap.size, 6, none⟩ = some (.slice A T.l.length c) := (blk_cell HX8.out 6).trans rfl
          go_wp2
          have P := td_put7 (b0 := .int .i64 T2.x) (b1 := .int .i64 T2.y) (b2 := .int .i64 T2.dx) (b3 := .int .i64 T2.dy) (b4 := .int .i64 T2.st) (b5 := .bool T2.dn) (b6 := .slice A7 T2.l.length c7) HX8.out HB8.out H31W.out
          go_roundg (101 - i - 1)
          case measure => have := HI5.out; omega
          case rel => exact ⟨i + 1, T2, A7, c7, congrArg (Value.int .i64) (show wrap64 ((i : Int) + 1) = ((i + 1 : Nat) : Int) from by have := HJ2.out; unfold wrap64; omega), ⟨by have h1 := HI5.out; have h2 := HJ.out; have h3 := HJ2.out; exact ⟨by omega, by omega, by omega⟩⟩, ⟨td_move HI8.out (fun k cs t f e ht => P.2.1 k (fun hk => by subst hk; have e2 := HX8.out; rw [e2] at e; injection e with e; injection e with _ e1; subst e1; revert ht; decide))⟩, HO2, ⟨P.1⟩, ⟨td_rows HR8.out (fun k cs f e => P.2.1 k (fun hk => by subst hk; have e2 := HX8.out; rw [e2] at e; injection e with e; injection e with _ e1; revert e1; decide))⟩, ⟨P.2.2⟩⟩
        · skip
          have P := td_put7 (b0 := .int .i64 T2.x) (b1 := .int .i64 T2.y) (b2 := .int .i64 T2.dx) (b3 := .int .i64 T2.dy) (b4 := .int .i64 T2.st) (b5 := .bool T2.dn) (b6 := .slice A7 T2.l.length c7) HN6.out HB6.out HWS.out
          have x1 := (P.2.1 _ HNE0.out).trans HX6.out
          have x2 := P.1
          have x3 := td_move HIT6.out (fun k cs t f e ht => P.2.1 k (fun hk => by subst hk; have e2 := HN6.out; rw [e2] at e; injection e with e; injection e with _ e1; subst e1; revert ht; decide))
          have x4 := td_rows HR6.out (fun k cs f e => P.2.1 k (fun hk => by subst hk; have e2 := HN6.out; rw [e2] at e; injection e with e; injection e with _ e1; revert e1; decide))
          have x5 := P.2.2
          have x6 := HNE0.out
          have x7 := HWS.out
          clear u0 u1 u2 u3 u4 u5 u6 u7 u8 k0 k1 k2 k3 k4 k5 k6 hx0 hx1 nw0 nw1 n6_0 n6_1 n6_2 n6_3 n6_4 n6_5 n6_6 z6_0 z6_1 z6_2 z6_3 z6_4 z6_5 z6_6 P
          generalize (((((((w6.setCell ⟨wr.heap.size, 0, none⟩ (.int .i64 T2.x)).setCell ⟨wr.heap.size, 1, none⟩ (.int .i64 T2.y)).setCell ⟨wr.heap.size, 2, none⟩ (.int .i64 T2.dx)).setCell ⟨wr.heap.size, 3, none⟩ (.int .i64 T2.dy)).setCell ⟨wr.heap.size, 4, none⟩ (.int .i64 T2.st)).setCell ⟨wr.heap.size, 5, none⟩ (.bool T2.dn)).setCell ⟨wr.heap.size, 6, none⟩ (.slice A7 T2.l.length c7)) = Wf at x1 x2 x3 x4 x5 ⊢
          generalize wr.heap.size = nb at x2 x6 x7 ⊢
          have HXT := Aside0.mk (show IsT w1.heap.size Wf.drew w1.heap.size T from x3)
          have HXN := Aside0.mk (show Wf.drew.heap[nb]? = some (.cells #[.int .i64 T2.x, .int .i64 T2.y, .int .i64 T2.dx, .int .i64 T2.dy, .int .i64 T2.st, .bool T2.dn, .slice A7 T2.l.length c7] 28 (0, 0)) from x2)
          have HXX := Aside0.mk (show Wf.drew.heap[w3.heap.size]? = some (.cells #[.int .i64 T.x, .int .i64 T.y, .int .i64 T.dx, .int .i64 T.dy, .int .i64 T.st, .bool T.dn, .slice A T.l.length c] 28 (0, 0)) from x1)
          have HXB := Aside0.mk (below_drew x5)
          have HXR := Aside0.mk (Kd.R_drew x4)
          have HTL := Aside0.mk (show T.l.length ≤ 900000 by have h1 := HO5.out.2.1; have h2 := HI5.out.2.1; omega)
          have HL2 := Aside0.mk (show T2.l.length ≤ 100000 by have h1 := HO2.out.2.1; have h2 := HI5.out.2.1; omega)
          have HBS := Aside0.mk (show w1.heap.size ≤ Wf.drew.heap.size by have := tu_le HXT.out; omega)
          have r0 : Wf.cell? ⟨nb, 0, none⟩ = some (.int .i64 T2.x) := (blk_cell x2 0).trans rfl
          have r1 : Wf.cell? ⟨nb, 1, none⟩ = some (.int .i64 T2.y) := (blk_cell x2 1).trans rfl
          have r2 : Wf.cell? ⟨nb, 2, none⟩ = some (.int .i64 T2.dx) := (blk_cell x2 2).trans rfl
          have r3 : Wf.cell? ⟨nb, 3, none⟩ = some (.int .i64 T2.dy) := (blk_cell x2 3).trans rfl
          have r4 : Wf.cell? ⟨nb, 4, none⟩ = some (.int .i64 T2.st) := (blk_cell x2 4).trans rfl
          have r5 : Wf.cell? ⟨nb, 5, none⟩ = some (.bool T2.dn) := (blk_cell x2 5).trans rfl
          have r6 : Wf.cell? ⟨nb, 6, none⟩ = some (.slice A7 T2.l.length c7) := (blk_cell x2 6).trans rfl
          have r7 : Wf.cell? (ad.add (i * 2)) = some (.int .i32 wh) := pw_cell_below x5 HW0.out
          have r8 : Wf.cell? ⟨(ad.add (i * 2)).block, (ad.add (i * 2)).off + 1, none⟩ = some (.int .i32 mu) := pw_cell_below x5 HW1.out
          have hee : (e2 != e2) = false := by simp
          clear x1 x2 x3 x4 x5
          go_wp2
          go_region_held3 (fun w' => w'.cell? ⟨nb, 0, none⟩ = some (.int .i64 T2.x) ∧ w'.cell? ⟨nb, 1, none⟩ = some (.int .i64 T2.y) ∧ w'.cell? ⟨nb, 2, none⟩ = some (.int .i64 T2.dx) ∧ w'.cell? ⟨nb, 3, none⟩ = some (.int .i64 T2.dy) ∧ w'.cell? ⟨nb, 4, none⟩ = some (.int .i64 T2.st) ∧ w'.cell? ⟨nb, 5, none⟩ = some (.bool T2.dn) ∧ w'.cell? ⟨nb, 6, none⟩ = some (.slice A7 T2.l.length c7) ∧ w'.cell? (ad.add (i * 2)) = some (.int .i32 wh) ∧ w'.cell? ⟨(ad.add (i * 2)).block, (ad.add (i * 2)).off + 1, none⟩ = some (.int .i32 mu)) (first | with_reducible exact ⟨t0, t1, t2, t3, t4, t5, t6, t7, t8⟩ | with_reducible exact ⟨s0, s1, s2, s3, s4, s5, s6, s7, s8⟩ | with_reducible exact ⟨r0, r1, r2, r3, r4, r5, r6, r7, r8⟩ | go_keep) (first | (go_at_call 12; (with_reducible refine (tu_do_calls w1.heap.size w1.heap.size T wh mu _ HXT.out HO5.out.1 HTL.out HBS.out).mono ?_); rintro e w7 ⟨rfl, hI7, hb7⟩; rw [HT2.out] at hI7 ⊢; have hn7 := hb7.cells HXN.out (show 28 ≠ 51 by decide) (show 28 ≠ 68 by decide); have hbx7 := hb7.cells HXX.out (show 28 ≠ 51 by decide) (show 28 ≠ 68 by decide); have hB7 := HXB.out.trans (hb7.below.mono H01.out); have t0 : w7.cell? ⟨nb, 0, none⟩ = some (.int .i64 T2.x) := (blk_cell hn7 0).trans rfl; have t1 : w7.cell? ⟨nb, 1, none⟩ = some (.int .i64 T2.y) := (blk_cell hn7 1).trans rfl; have t2 : w7.cell? ⟨nb, 2, none⟩ = some (.int .i64 T2.dx) := (blk_cell hn7 2).trans rfl; have t3 : w7.cell? ⟨nb, 3, none⟩ = some (.int .i64 T2.dy) := (blk_cell hn7 3).trans rfl; have t4 : w7.cell? ⟨nb, 4, none⟩ = some (.int .i64 T2.st) := (blk_cell hn7 4).trans rfl; have t5 : w7.cell? ⟨nb, 5, none⟩ = some (.bool T2.dn) := (blk_cell hn7 5).trans rfl; have t6 : w7.cell? ⟨nb, 6, none⟩ = some (.slice A7 T2.l.length c7) := (blk_cell hn7 6).trans rfl; have t7 : w7.cell? (ad.add (i * 2)) = some (.int .i32 wh) := pw_cell_below hB7 HW0.out; have t8 : w7.cell? ⟨(ad.add (i * 2)).block, (ad.add (i * 2)).off + 1, none⟩ = some (.int .i32 mu) := pw_cell_below hB7 HW1.out; have hR7 := td_rows HXR.out (fun k cs f e => (hb7.keep k _ e (fun cs' f' he => by cases he) (fun cs' f' he => by cases he)).trans e.symm); obtain ⟨A9, c9, e9, hc9, hC9⟩ := Kd.R_reads hR7; cases e9; have HC9 := Aside0.mk hC9; have HI7 := Aside0.mk hI7; have HN7 := Aside0.mk hn7; have HX7 := Aside0.mk hbx7; have HB7 := Aside0.mk hB7; have HR7 := Aside0.mk hR7; clear hn7 hbx7 hB7 hR7 hC9 hc9 hI7 hb7) | (go_at_call 13; (with_reducible refine (tu_is_calls w1.heap.size w1.heap.size T2 A7 c7 w7 HI7.out HO2.out.1 HL2.out HO2.out.2.2 HC9.out).mono ?_); rintro e w8 ⟨rfl, hb8⟩; have hn8 := (hb8.block _ (blk_lt HN7.out)).trans HN7.out; have hx8 := (hb8.block _ (blk_lt HX7.out)).trans HX7.out; have hB8 := below_step HB7.out hb8; have s0 : w8.cell? ⟨nb, 0, none⟩ = some (.int .i64 T2.x) := (blk_cell hn8 0).trans rfl; have s1 : w8.cell? ⟨nb, 1, none⟩ = some (.int .i64 T2.y) := (blk_cell hn8 1).trans rfl; have s2 : w8.cell? ⟨nb, 2, none⟩ = some (.int .i64 T2.dx) := (blk_cell hn8 2).trans rfl; have s3 : w8.cell? ⟨nb, 3, none⟩ = some (.int .i64 T2.dy) := (blk_cell hn8 3).trans rfl; have s4 : w8.cell? ⟨nb, 4, none⟩ = some (.int .i64 T2.st) := (blk_cell hn8 4).trans rfl; have s5 : w8.cell? ⟨nb, 5, none⟩ = some (.bool T2.dn) := (blk_cell hn8 5).trans rfl; have s6 : w8.cell? ⟨nb, 6, none⟩ = some (.slice A7 T2.l.length c7) := (blk_cell hn8 6).trans rfl; have s7 : w8.cell? (ad.add (i * 2)) = some (.int .i32 wh) := pw_cell_below hB8 HW0.out; have s8 : w8.cell? ⟨(ad.add (i * 2)).block, (ad.add (i * 2)).off + 1, none⟩ = some (.int .i32 mu) := pw_cell_below hB8 HW1.out; have HI8 := Aside0.mk (td_below HI7.out hb8); have HN8 := Aside0.mk hn8; have HX8 := Aside0.mk hx8; have HB8 := Aside0.mk hB8; have HR8 := Aside0.mk (Kd.R_below HR7.out hb8); clear hn8 hx8 hB8 hb8))
          have hb0 := blk_frozen HX8.out 0; have hb1 := blk_frozen HX8.out 1; have hb2 := blk_frozen HX8.out 2; have hb3 := blk_frozen HX8.out 3; have hb4 := blk_frozen HX8.out 4; have hb5 := blk_frozen HX8.out 5; have hb6 := blk_frozen HX8.out 6
          have g0 : w8.cell? ⟨w3.heap.size, 0, none⟩ = some (.int .i64 T.x) := (blk_cell HX8.out 0).trans rfl
          have g1 : w8.cell? ⟨w3.heap.size, 1, none⟩ = some (.int .i64 T.y) := (blk_cell HX8.out 1).trans rfl
          have g2 : w8.cell? ⟨w3.heap.size, 2, none⟩ = some (.int .i64 T.dx) := (blk_cell HX8.out 2).trans rfl
          have g3 : w8.cell? ⟨w3.heap.size, 3, none⟩ = some (.int .i64 T.dy) := (blk_cell HX8.out 3).trans rfl
          have g4 : w8.cell? ⟨w3.heap.size, 4, none⟩ = some (.int .i64 T.st) := (blk_cell HX8.out 4).trans rfl
          have g5 : w8.cell? ⟨w3.heap.size, 5, none⟩ = some (.bool T.dn) := (blk_cell HX8.out 5).trans rfl
          have g6 : w8.cell? ⟨w3.heap.size, 6, none⟩ = some (.slice A T.l.length c) := (blk_cell HX8.out 6).trans rfl
          go_wp2
          have P := td_put7 (b0 := .int .i64 T2.x) (b1 := .int .i64 T2.y) (b2 := .int .i64 T2.dx) (b3 := .int .i64 T2.dy) (b4 := .int .i64 T2.st) (b5 := .bool T2.dn) (b6 := .slice A7 T2.l.length c7) HX8.out HB8.out H31W.out
          go_roundg (101 - i - 1)
          case measure => have := HI5.out; omega
          case rel => exact ⟨i + 1, T2, A7, c7, congrArg (Value.int .i64) (show wrap64 ((i : Int) + 1) = ((i + 1 : Nat) : Int) from by have := HJ2.out; unfold wrap64; omega), ⟨by have h1 := HI5.out; have h2 := HJ.out; have h3 := HJ2.out; exact ⟨by omega, by omega, by omega⟩⟩, ⟨td_move HI8.out (fun k cs t f e ht => P.2.1 k (fun hk => by subst hk; have e2 := HX8.out; rw [e2] at e; injection e with e; injection e with _ e1; subst e1; revert ht; decide))⟩, HO2, ⟨P.1⟩, ⟨td_rows HR8.out (fun k cs f e => P.2.1 k (fun hk => by subst hk; have e2 := HX8.out; rw [e2] at e; injection e with e; injection e with _ e1; revert e1; decide))⟩, ⟨P.2.2⟩⟩
      · have p4 : decide ((i : Int) < 100) = false := decide_eq_false (by omega)
        have p5 : ((i : Int) < 100) = False := eq_false (by omega)
        have p6 : decide (i < 100) = false := decide_eq_false h100
        clear h100 hi
        go_wp2
        go_ret
        exact ⟨rfl, HB5.out⟩
    · have p1 : decide ((i : Int) < (l0.length : Int)) = false := decide_eq_false (by omega)
      have p2 : decide (i < l0.length) = false := decide_eq_false hi
      have p3 : ((i : Int) < (l0.length : Int)) = False := eq_false (by omega)
      clear hi
      go_wp2
      go_ret
      exact ⟨rfl, HB5.out⟩

end Go.Proofs.Ytbfepcajbbeheaa.P

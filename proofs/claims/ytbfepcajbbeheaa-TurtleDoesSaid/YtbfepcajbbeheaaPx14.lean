-- Written by a program of this session (wip/tools/hp.py) out of the translation.
import Derived.Test.YtbfepcajbbeheaaPx0
import Derived.Test.YtbfepcajbbeheaaPx1
import Derived.Test.YtbfepcajbbeheaaPx12
import Derived.Test.YtbfepcajbbeheaaPx13
namespace Go.Proofs.Ytbfepcajbbeheaa.P
open Go.RowKit Go.Proofs.YtbfepcajbbeheaaW.PrintWords Go.Proofs.YtbfepcajbbeheaaW.PrintLast Go.Proofs.YtbfepcajbbeheaaW.PrintMore
attribute [local go_sem] max2_int min2_int max_two min_two max_three min_three max_four min_four   -- for this text's walks alone
set_option linter.unusedVariables false
set_option linter.unusedSimpArgs false

/-! ### pascalinelaw32_is: function 13 -/
open Go.Proofs.Ytbfepcajbbeheaa.C
set_option maxRecDepth 100000 in
set_option maxHeartbeats 8000000 in
theorem tu_is_calls (base g : Nat) (T : Tu) (A2 : Option Addr) (c2 : Nat) (w : World) (hT : IsT base w g T) (hO : TuOk T) (hl : T.l.length ≤ 100000) (hon : ∀ x ∈ T.l, tu_on x) (hC2 : Kd.C k70 w A2 T.l.length T.l) :
    Calls Try.prog 13 #[.pointer (some ⟨g, 0, none⟩), .agg #[.int .i64 T.x, .int .i64 T.y, .int .i64 T.dx, .int .i64 T.dy, .int .i64 T.st, .bool T.dn, .slice A2 T.l.length c2]] w fun e w' => e = .returned (.bool true) ∧ Below w.heap.size w w' := by
  obtain ⟨ax, ay, lx, ly, s, v, hblk, ⟨f1, f2, f3, f4, f5⟩, hR, hg⟩ := hT
  obtain ⟨A, c, rfl, hc, hC⟩ := Kd.R_reads hR
  have HC := Aside0.mk hC; have HC2 := Aside0.mk hC2; have HL := Aside0.mk hl; have HON := Aside0.mk hon; have HK := Aside0.mk hblk
  have o1 := hO.x; have o2 := hO.y; have o3 := hO.dx; have o4 := hO.dy; have o5 := hO.st
  have q1 : (FloatKind.f64.format.order ax (floatOfInt .f64 T.x) == some Ordering.eq) = true := by rw [fl_eq f1 (fl_ofInt (n := T.x) (by omega))]; simp
  have q2 : (FloatKind.f64.format.order ay (floatOfInt .f64 T.y) == some Ordering.eq) = true := by rw [fl_eq f2 (fl_ofInt (n := T.y) (by omega))]; simp
  have q3 : (FloatKind.f64.format.order lx (floatOfInt .f64 T.dx) == some Ordering.eq) = true := by rw [fl_eq f3 (fl_ofInt (n := T.dx) (by omega))]; simp
  have q4 : (FloatKind.f64.format.order ly (floatOfInt .f64 T.dy) == some Ordering.eq) = true := by rw [fl_eq f4 (fl_ofInt (n := T.dy) (by omega))]; simp
  have q5 : (FloatKind.f64.format.order s (floatOfInt .f64 T.st) == some Ordering.eq) = true := by rw [fl_eq f5 (fl_ofInt (n := T.st) (by omega))]; simp
  have q6 : (FloatKind.f64.format.order s (floatOfInt .f64 T.st) != some Ordering.eq) = false := by unfold bne; rw [q5]; rfl
  have hgl := blk_lt hblk
  obtain ⟨x, y, dx, dy, st, dn, l⟩ := T
  dsimp only at *
  have y0 : ∀ W : World, W.heap[g]? = w.heap[g]? → W.cell? ⟨g, 0, none⟩ = some (.complex .f64 ax ay) := fun W h => blk_cell (h.trans HK.out) 0
  have y1 : ∀ W : World, W.heap[g]? = w.heap[g]? → W.cell? ⟨g, 1, none⟩ = some (.complex .f64 lx ly) := fun W h => blk_cell (h.trans HK.out) 1
  have y2 : ∀ W : World, W.heap[g]? = w.heap[g]? → W.cell? ⟨g, 2, none⟩ = some (.float .f64 s) := fun W h => blk_cell (h.trans HK.out) 2
  have y3 : ∀ W : World, W.heap[g]? = w.heap[g]? → W.cell? ⟨g, 3, none⟩ = some (.bool dn) := fun W h => blk_cell (h.trans HK.out) 3
  have y4 : ∀ W : World, W.heap[g]? = w.heap[g]? → W.cell? ⟨g, 4, none⟩ = some (.slice A l.length c) := fun W h => blk_cell (h.trans HK.out) 4
  clear hblk hR hC hC2 hl hon hc f1 f2 f3 f4 f5 o1 o2 o3 o4 o5 hO hg
  go_enter Try.func13, Try.ntmps13
  go_wp2
  obtain ⟨W1, hW1⟩ : ∃ W1, w.alloc (.cells #[.int .i64 x, .int .i64 y, .int .i64 dx, .int .i64 dy, .int .i64 st, .bool dn, .slice A2 l.length c2] 28) = W1 := ⟨_, rfl⟩
  have hb1 : W1.heap[w.heap.size]? = some (.cells #[.int .i64 x, .int .i64 y, .int .i64 dx, .int .i64 dy, .int .i64 st, .bool dn, .slice A2 l.length c2] 28 (0, 0)) := by rw [← hW1]; exact blk_new w _
  have hB1 : Below w.heap.size w W1 := by rw [← hW1]; exact below_alloc (Below.refl _ _) _
  rw [hW1]
  clear hW1
  have z0 := y0 W1 (hB1.block g hgl)
  have z1 := y1 W1 (hB1.block g hgl)
  have z2 := y2 W1 (hB1.block g hgl)
  have z3 := y3 W1 (hB1.block g hgl)
  have z4 := y4 W1 (hB1.block g hgl)
  have b0 : W1.cell? ⟨w.heap.size, 0, none⟩ = some (.int .i64 x) := blk_cell hb1 0
  have b1 : W1.cell? ⟨w.heap.size, 1, none⟩ = some (.int .i64 y) := blk_cell hb1 1
  have b2 : W1.cell? ⟨w.heap.size, 2, none⟩ = some (.int .i64 dx) := blk_cell hb1 2
  have b3 : W1.cell? ⟨w.heap.size, 3, none⟩ = some (.int .i64 dy) := blk_cell hb1 3
  have b4 : W1.cell? ⟨w.heap.size, 4, none⟩ = some (.int .i64 st) := blk_cell hb1 4
  have b5 : W1.cell? ⟨w.heap.size, 5, none⟩ = some (.bool dn) := blk_cell hb1 5
  have b6 : W1.cell? ⟨w.heap.size, 6, none⟩ = some (.slice A2 l.length c2) := blk_cell hb1 6
  have HB1 := Aside0.mk hB1; have HG := Aside0.mk hgl
  clear hb1 hB1 y0 y1 y2 y3 y4 hgl
  go_region_held3 (fun w' => w'.cell? ⟨g, 0, none⟩ = some (.complex .f64 ax ay) ∧ w'.cell? ⟨g, 1, none⟩ = some (.complex .f64 lx ly) ∧ w'.cell? ⟨g, 2, none⟩ = some (.float .f64 s) ∧ w'.cell? ⟨g, 3, none⟩ = some (.bool dn) ∧ w'.cell? ⟨g, 4, none⟩ = some (.slice A l.length c) ∧ w'.cell? ⟨w.heap.size, 0, none⟩ = some (.int .i64 x) ∧ w'.cell? ⟨w.heap.size, 1, none⟩ = some (.int .i64 y) ∧ w'.cell? ⟨w.heap.size, 2, none⟩ = some (.int .i64 dx) ∧ w'.cell? ⟨w.heap.size, 3, none⟩ = some (.int .i64 dy) ∧ w'.cell? ⟨w.heap.size, 4, none⟩ = some (.int .i64 st) ∧ w'.cell? ⟨w.heap.size, 5, none⟩ = some (.bool dn) ∧ w'.cell? ⟨w.heap.size, 6, none⟩ = some (.slice A2 l.length c2)) (first | exact ⟨z0, z1, z2, z3, z4, b0, b1, b2, b3, b4, b5, b6⟩ | go_keep) (first | (go_at_call 24; (with_reducible refine (tu_at_calls x y _).mono ?_); rintro e w' ⟨rfl, rfl⟩) | (go_at_call 24; (with_reducible refine (tu_at_calls dx dy _).mono ?_); rintro e w' ⟨rfl, rfl⟩))
  clear q1 q2 q3 q4 q5 q6
  have HB2 := Aside0.mk (below_drew HB1.out)
  have b6' : W1.drew.cell? ⟨w.heap.size, 6, none⟩ = some (.slice A2 l.length c2) := b6
  have z4' : W1.drew.cell? ⟨g, 4, none⟩ = some (.slice A l.length c) := z4
  clear z0 z1 z2 z3 z4 b0 b1 b2 b3 b4 b5 b6
  have hstay : W1.drew.heap.size = W1.heap.size := rfl
  clear hstay
  generalize W1.drew = W2 at HB2 b6' z4' ⊢
  have HZ4 := Aside0.mk z4'; have HB6 := Aside0.mk b6'
  go_wp2
  go_loopg [5] (l.length + 1) (fun kx v5 wr => ∃ i : Nat, v5 = .int .i64 i ∧ Aside0 (i + kx = l.length + 1 ∧ i ≤ l.length) ∧ Aside0 (Below w.heap.size w wr ∧ wr.cell? ⟨g, 4, none⟩ = some (.slice A l.length c) ∧ wr.cell? ⟨w.heap.size, 6, none⟩ = some (.slice A2 l.length c2)))
  case atStart => exact ⟨0, rfl, ⟨⟨by omega, by omega⟩⟩, ⟨⟨HB2.out, HZ4.out, HB6.out⟩⟩⟩
  case round =>
    obtain ⟨i, rfl, HI, HW⟩ := hrel
    obtain ⟨hbw, cz4, cb6⟩ := HW.out
    have HBW := Aside0.mk hbw
    by_cases hi : i < l.length
    · obtain ⟨ad, a, b, cc, d, e, hx0, hx1, f1, f2, f3, f4⟩ := tu_at2 HC.out i hi (by omega)
      cases e
      obtain ⟨ad2, e2, hr0, hr1, hr2, hr3⟩ := at_T70 HC2.out (i : Int) (by omega) (by omega)
      cases e2
      rw [Int.toNat_natCast] at hr0 hr1 hr2 hr3
      have er : rd_T70 l (i : Int) = l[i] := by unfold rd_T70; rw [Int.toNat_natCast]; simp [hi]
      rw [er] at hr0 hr1 hr2 hr3
      have ho := HON.out l[i] (List.getElem_mem hi)
      generalize l[i] = sx at hr0 hr1 hr2 hr3 f1 f2 f3 f4 ho
      obtain ⟨s0, s1, s2, s3⟩ := sx
      obtain ⟨o1, o2, o3, o4⟩ := ho
      dsimp only at hr0 hr1 hr2 hr3 f1 f2 f3 f4 o1 o2 o3 o4
      have q1 : (FloatKind.f64.format.order a (floatOfInt .f64 s0) == some Ordering.eq) = true := by rw [fl_eq f1 (fl_ofInt (n := s0) (by omega))]; simp
      have q2 : (FloatKind.f64.format.order b (floatOfInt .f64 s1) == some Ordering.eq) = true := by rw [fl_eq f2 (fl_ofInt (n := s1) (by omega))]; simp
      have q3 : (FloatKind.f64.format.order cc (floatOfInt .f64 s2) == some Ordering.eq) = true := by rw [fl_eq f3 (fl_ofInt (n := s2) (by omega))]; simp
      have q4 : (FloatKind.f64.format.order d (floatOfInt .f64 s3) == some Ordering.eq) = true := by rw [fl_eq f4 (fl_ofInt (n := s3) (by omega))]; simp
      replace hx0 := pw_cell_below hbw hx0
      replace hx1 := pw_cell_below hbw hx1
      replace hr0 := pw_cell_below hbw hr0
      replace hr1 := pw_cell_below hbw hr1
      replace hr2 := pw_cell_below hbw hr2
      replace hr3 := pw_cell_below hbw hr3
      have hi1 : (i : Int) < (l.length : Int) := by omega
      have hi0 : (0 : Int) ≤ (i : Int) := by omega
      have hin : decide (i < l.length) = true := decide_eq_true hi
      have hjn : decide ((i : Int) < (l.length : Int)) = true := decide_eq_true hi1
      have hw1 : wrap64 ((i : Int) + 1) = ((i + 1 : Nat) : Int) := by have := HL.out; unfold wrap64; omega
      have HW1 := Aside0.mk hw1; have HJ := Aside0.mk hi
      clear f1 f2 f3 f4 o1 o2 o3 o4 er hw1 hbw
      go_wp2
      go_region_held3 (fun w' => w'.cell? ⟨g, 4, none⟩ = some (.slice (some ad) l.length c) ∧ w'.cell? ⟨w.heap.size, 6, none⟩ = some (.slice (some ad2) l.length c2) ∧ w'.cell? (ad.add (i * 2)) = some (.complex .f64 a b) ∧ w'.cell? ⟨(ad.add (i * 2)).block, (ad.add (i * 2)).off + 1, none⟩ = some (.complex .f64 cc d) ∧ w'.cell? (ad2.add (i * 4)) = some (.int .i64 s0) ∧ w'.cell? ⟨(ad2.add (i * 4)).block, (ad2.add (i * 4)).off + 1, none⟩ = some (.int .i64 s1) ∧ w'.cell? ⟨(ad2.add (i * 4)).block, (ad2.add (i * 4)).off + 2, none⟩ = some (.int .i64 s2) ∧ w'.cell? ⟨(ad2.add (i * 4)).block, (ad2.add (i * 4)).off + 3, none⟩ = some (.int .i64 s3)) (first | exact ⟨cz4, cb6, hx0, hx1, hr0, hr1, hr2, hr3⟩ | go_keep) (first | (go_at_call 24; (with_reducible refine (tu_at_calls s0 s1 _).mono ?_); rintro e w' ⟨rfl, rfl⟩) | (go_at_call 24; (with_reducible refine (tu_at_calls s2 s3 _).mono ?_); rintro e w' ⟨rfl, rfl⟩))
      go_wp2
      go_roundg (l.length - i)
      case measure => have := HI.out; omega
      case rel => exact ⟨i + 1, congrArg (Value.int .i64) HW1.out, ⟨by have := HI.out; have := HJ.out; omega⟩, ⟨⟨below_drew HBW.out, cz4, cb6⟩⟩⟩
    · have hi1 : decide ((i : Int) < (l.length : Int)) = false := decide_eq_false (by omega)
      have hin : decide (i < l.length) = false := decide_eq_false hi
      clear hi
      go_wp2
      go_ret
      exact ⟨rfl, HBW.out⟩

end Go.Proofs.Ytbfepcajbbeheaa.P

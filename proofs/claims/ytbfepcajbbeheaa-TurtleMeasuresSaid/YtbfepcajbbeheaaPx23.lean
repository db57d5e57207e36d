-- Written by a program of this session (wip/tools/hp.py) out of the translation.
import Derived.Test.YtbfepcajbbeheaaPx0
import Derived.Test.YtbfepcajbbeheaaPx1
import Derived.Test.YtbfepcajbbeheaaPx12
namespace Go.Proofs.Ytbfepcajbbeheaa.P
open Go.RowKit Go.Proofs.YtbfepcajbbeheaaW.PrintWords Go.Proofs.YtbfepcajbbeheaaW.PrintLast Go.Proofs.YtbfepcajbbeheaaW.PrintMore
attribute [local go_sem] max2_int min2_int max_two min_two max_three min_three max_four min_four   -- for this text's walks alone
set_option linter.unusedVariables false
set_option linter.unusedSimpArgs false

/-! ### turtle_Turtle_Box: function 20 -/
open Go.Proofs.Ytbfepcajbbeheaa.C
abbrev TBx := Int × Int × Int × Int
def bx_step (b : TBx) (x y : Int) : TBx := (min b.1 x, min b.2.1 y, max b.2.2.1 x, max b.2.2.2 y)
def bx_two (b : TBx) (s : S70) : TBx := bx_step (bx_step b s.f0 s.f1) s.f2 s.f3
def tu_box (l : List S70) : TBx := l.foldl bx_two (0, 0, 0, 0)
theorem tu_box_snoc (l : List S70) (x : S70) : tu_box (l ++ [x]) = bx_two (tu_box l) x := by unfold tu_box; simp
def FlB (p1 p2 p3 p4 : Nat) (b : TBx) : Prop := Fl p1 b.1 ∧ Fl p2 b.2.1 ∧ Fl p3 b.2.2.1 ∧ Fl p4 b.2.2.2
def bx_at (b : TBx) (s : S70) (j : Nat) : TBx := if j = 0 then b else if j = 1 then bx_step b s.f0 s.f1 else bx_two b s
theorem bx_go {P : Program} {p1 p2 p3 p4 x y : Nat} {b : TBx} {X Y : Int} (h : FlB p1 p2 p3 p4 b) (hx : Fl x X) (hy : Fl y Y) : ∃ q1 q2 q3 q4, (∀ w : World, (Builtin.min2 (.float .f64 p1) (.float .f64 x)).run P w = .ok (.float .f64 q1) w) ∧ (∀ w : World, (Builtin.min2 (.float .f64 p2) (.float .f64 y)).run P w = .ok (.float .f64 q2) w) ∧
    (∀ w : World, (Builtin.max2 (.float .f64 p3) (.float .f64 x)).run P w = .ok (.float .f64 q3) w) ∧ (∀ w : World, (Builtin.max2 (.float .f64 p4) (.float .f64 y)).run P w = .ok (.float .f64 q4) w) ∧ FlB q1 q2 q3 q4 (bx_step b X Y) := by
  obtain ⟨h1, h2, h3, h4⟩ := h
  obtain ⟨q1, e1, g1⟩ := fl_min (P := P) h1 hx
  obtain ⟨q2, e2, g2⟩ := fl_min (P := P) h2 hy
  obtain ⟨q3, e3, g3⟩ := fl_max (P := P) h3 hx
  obtain ⟨q4, e4, g4⟩ := fl_max (P := P) h4 hy
  exact ⟨q1, q2, q3, q4, e1, e2, e3, e4, g1, g2, g3, g4⟩
set_option maxRecDepth 100000 in
set_option maxHeartbeats 4000000 in
theorem tu_Box_calls (base g : Nat) (T : Tu) (w : World) (hT : IsT base w g T) (hl : T.l.length ≤ 1000) :
    Calls Try.prog 20 #[.pointer (some ⟨g, 0, none⟩)] w fun e w' => (∃ p1 p2 p3 p4, e = .returned (.tuple #[.complex .f64 p1 p2, .complex .f64 p3 p4]) ∧ FlB p1 p2 p3 p4 (tu_box T.l)) ∧ Below w.heap.size w w' := by
  obtain ⟨ax, ay, lx, ly, s, v, hblk, hf, hR, hg⟩ := hT
  obtain ⟨A, c, rfl, hc, hC⟩ := Kd.R_reads hR
  have HC := Aside0.mk hC; have HL := Aside0.mk hl
  have c4 : w.cell? ⟨g, 4, none⟩ = some (.slice A T.l.length c) := blk_cell hblk 4
  have hst : ∀ (p : Addr) (q r : Nat) (w : World), (store p (.complex .f64 q r)).run Try.prog w = stored Try.prog w p (.complex .f64 q r) .plain := fun p q r w => run_store Try.prog w p _ .plain rfl
  have ix0 : ∀ (a b c d : Nat) (w : World), (Instr.index 84 (.agg #[.complex .f64 a b, .complex .f64 c d]) (.int .i64 0)).run Try.prog w = .ok (.complex .f64 a b) w := fun a b c d w => by kernel_rfl
  have ix1 : ∀ (a b c d : Nat) (w : World), (Instr.index 84 (.agg #[.complex .f64 a b, .complex .f64 c d]) (.int .i64 1)).run Try.prog w = .ok (.complex .f64 c d) w := fun a b c d w => by kernel_rfl
  clear hblk hf hR hg hC hl hc
  go_enter Try.func20, Try.ntmps20
  go_wp2
  go_loopg [4, 5, 15] (T.l.length + 1) (fun kx v4 v5 v15 wr => ∃ (i p1 p2 p3 p4 : Nat), v4 = .complex .f64 p1 p2 ∧ v5 = .complex .f64 p3 p4 ∧ v15 = .int .i64 i ∧ Aside0 (i + kx = T.l.length + 1 ∧ i ≤ T.l.length) ∧ Aside0 (FlB p1 p2 p3 p4 (tu_box (T.l.take i))) ∧ Aside0 (Below w.heap.size w wr))
  case atStart => exact ⟨0, 0, 0, 0, 0, rfl, rfl, rfl, ⟨⟨by omega, by omega⟩⟩, ⟨⟨fl_0, fl_0, fl_0, fl_0⟩⟩, ⟨Below.refl _ _⟩⟩
  case round =>
    obtain ⟨i, p1, p2, p3, p4, rfl, rfl, rfl, HI, HQ, HW⟩ := hrel
    by_cases hi : i < T.l.length
    · obtain ⟨ad, a, b, cc, d, e, hx0, hx1, f1, f2, f3, f4⟩ := tu_at2 HC.out i hi (by omega)
      cases e
      have htk := List.take_succ_eq_append_getElem hi
      replace hx0 := pw_cell_below HW.out hx0
      replace hx1 := pw_cell_below HW.out hx1
      have HTK := Aside0.mk (show bx_two (tu_box (T.l.take i)) T.l[i] = tu_box (T.l.take (i + 1)) from by rw [htk, tu_box_snoc])
      have HF := Aside0.mk (And.intro f1 (And.intro f2 (And.intro f3 f4)))
      clear f1 f2 f3 f4 htk
      have hi1 : (i : Int) < (T.l.length : Int) := by omega
      have hi0 : (0 : Int) ≤ (i : Int) := by omega
      have hin : decide (i < T.l.length) = true := decide_eq_true hi
      have hjn : decide ((i : Int) < (T.l.length : Int)) = true := decide_eq_true hi1
      go_wp2
      have hW1 := below_alloc HW.out (.cells #[.complex .f64 a b, .complex .f64 cc d] 68)
      generalize wr.alloc (.cells #[.complex .f64 a b, .complex .f64 cc d] 68) = W1 at hW1 ⊢
      have HW1 := Aside0.mk hW1
      clear hW1 hx0 hx1
      go_loopg [4, 5, 24] 3 (fun kx v4 v5 v24 wz => ∃ (j q1 q2 q3 q4 : Nat), v4 = .complex .f64 q1 q2 ∧ v5 = .complex .f64 q3 q4 ∧ v24 = .int .i64 j ∧ Aside0 (j + kx = 3 ∧ j ≤ 2) ∧ Aside0 (FlB q1 q2 q3 q4 (bx_at (tu_box (T.l.take i)) T.l[i] j)) ∧ Aside0 (wz = W1))
      case atStart => exact ⟨0, p1, p2, p3, p4, rfl, rfl, rfl, ⟨⟨by omega, by omega⟩⟩, ⟨HQ.out⟩, ⟨rfl⟩⟩
      case round =>
        obtain ⟨j, q1, q2, q3, q4, rfl, rfl, rfl, HJ, HB, HZ⟩ := hrel
        have hz := HZ.out
        subst hz
        have hj : j = 0 ∨ j = 1 ∨ j = 2 := by have := HJ.out; omega
        rcases hj with rfl | rfl | rfl
        · obtain ⟨z1, z2, z3, z4, e1, e2, e3, e4, hg⟩ := bx_go (P := Try.prog) HB.out HF.out.1 HF.out.2.1
          have HG := Aside0.mk hg
          clear hg
          go_wp2
          go_roundg 2
          case measure => have := HJ.out; omega
          case rel => exact ⟨1, z1, z2, z3, z4, rfl, rfl, by first | rfl | (simp; done), ⟨⟨by omega, by omega⟩⟩, ⟨HG.out⟩, ⟨rfl⟩⟩
        · obtain ⟨z1, z2, z3, z4, e1, e2, e3, e4, hg⟩ := bx_go (P := Try.prog) HB.out HF.out.2.2.1 HF.out.2.2.2
          have HG := Aside0.mk hg
          clear hg
          go_wp2
          go_roundg 1
          case measure => have := HJ.out; omega
          case rel => exact ⟨2, z1, z2, z3, z4, rfl, rfl, by first | rfl | (simp; done), ⟨⟨by omega, by omega⟩⟩, ⟨HG.out⟩, ⟨rfl⟩⟩
        · have HB2 := Aside0.mk (show FlB q1 q2 q3 q4 (tu_box (T.l.take (i + 1))) from by rw [← HTK.out]; exact HB.out)
          go_wp2
          go_roundg (T.l.length - i)
          case measure => have := HI.out; omega
          case rel => exact ⟨i + 1, q1, q2, q3, q4, rfl, rfl, congrArg (Value.int .i64) (show wrap64 ((i : Int) + 1) = ((i + 1 : Nat) : Int) from by have := HI.out; have := HL.out; unfold wrap64; omega), ⟨by have := HI.out; omega⟩, HB2, HW1⟩
    · have hi1 : decide ((i : Int) < (T.l.length : Int)) = false := decide_eq_false (by omega)
      have hin : decide (i < T.l.length) = false := decide_eq_false hi
      have hq : T.l.take i = T.l := by rw [show i = T.l.length by have := HI.out; omega, List.take_length]
      have HQ2 := Aside0.mk (show FlB p1 p2 p3 p4 (tu_box T.l) from by have := HQ.out; rwa [hq] at this)
      clear hi hq
      go_wp2
      refine bodyPost_ret (results_list (rs := [.tmp 2, .tmp 3]) rfl (by simp) (.tmp (.tmp .nil))) rfl ?_
      exact ⟨⟨p1, p2, p3, p4, rfl, HQ2.out⟩, HW.out⟩

end Go.Proofs.Ytbfepcajbbeheaa.P

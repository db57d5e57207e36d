/- Printed parts. -/
import Derived.Test.YtmajngcgejkghaaPx0
import Derived.Test.YtmajngcgejkghaaCCf
import Derived.Test.YtmajngcgejkghaaPx30
import Derived.Test.YtmajngcgejkghaaPx1
namespace Go.Proofs.Ytmajngcgejkghaa.P
open Go.RowKit Go.Proofs.YtmajngcgejkghaaW.PrintWords Go.Proofs.YtmajngcgejkghaaW.PrintLast Go.Proofs.YtmajngcgejkghaaW.PrintMore
attribute [local go_sem] max2_int min2_int max_two min_two max_three min_three max_four min_four   -- for this text's walks alone
set_option linter.unusedVariables false
set_option linter.unusedSimpArgs false

/-! ### instr_register: function 34 -/
def instr_register.f (k : Nat) (a0 : ByteArray) : Option (Int × Bool) := if (a0.size : Int) < 2 then (some (0, false)) else (if 0 < (a0.size : Int) then (if (bt a0 0) = 114 then (if 1 ≤ (a0.size : Int) then ((word_Parse.f k (a0.extract 1 a0.size)).bind fun bt306 => (if bt306.2 = true then (if bt306.1 ≥ 0 then (some (wrap64 (bt306.1), decide (bt306.1 < 16))) else (some (wrap64 (bt306.1), false))) else (some (wrap64 (bt306.1), false)))) else (none)) else (some (0, false))) else (none))
theorem instr_register.mono : ∀ a0 k, LeO (instr_register.f k a0) (instr_register.f (k + 1) a0) := by
 intro a0 k
 unfold instr_register.f
 repeat' first
  | (with_reducible exact word_Parse.mono _ _)
  | (with_reducible exact LeO.refl _)
  | (with_reducible exact LeO.none _)
  | (with_reducible refine LeO.ite ?_ ?_)
  | (with_reducible refine LeO.bind ?_ (fun _ => ?_))
  | exact LeO.none _
  | refine LeO.ite ?_ ?_
  | refine LeO.bind ?_ (fun _ => ?_)
set_option maxHeartbeats 8000000 in
set_option maxRecDepth 100000 in
theorem instr_register.calls (k : Nat) (a0 : ByteArray) (r1 : Int) (r2 : Bool) (w : World) (h : instr_register.f k a0 = some (r1, r2)) :
 Calls Try.prog 34 #[.string a0] w fun e w' => e = .returned (.tuple #[.int .i64 r1, .bool r2]) ∧ Drawn0 w w' := by
 have H : (if (a0.size : Int) < 2 then (some (0, false)) else (if 0 < (a0.size : Int) then (if (bt a0 0) = 114 then (if 1 ≤ (a0.size : Int) then ((word_Parse.f k (a0.extract 1 a0.size)).bind fun bt306 => (if bt306.2 = true then (if bt306.1 ≥ 0 then (some (wrap64 (bt306.1), decide (bt306.1 < 16))) else (some (wrap64 (bt306.1), false))) else (some (wrap64 (bt306.1), false)))) else (none)) else (some (0, false))) else (none))) = some (r1, r2) := h
 clear h
 by_cases c2 : (a0.size : Int) < 2
 ·
  rw [if_pos c2] at H
  have c2b0 : decide ((a0.size : Int) < 2) = true := decide_eq_true c2
  have c2b1 : decide (a0.size < 2) = true := decide_eq_true (by omega)
  clear c2
  simp only [Option.some.injEq, Prod.mk.injEq] at H
  obtain ⟨rfl, rfl⟩ := H
  go_enter Try.func34, Try.ntmps34
  go_wp2
  go_ret2
  exact ⟨by first | rfl | (simp; done) | (simp [*]; done), by repeat (first | exact Drawn0.refl _ | apply Drawn0.step)⟩
 ·
  rw [if_neg c2] at H
  have c2b0 : decide ((a0.size : Int) < 2) = false := decide_eq_false c2
  have c2b1 : decide (a0.size < 2) = false := decide_eq_false (by omega)
  clear c2
  by_cases c3 : 0 < (a0.size : Int)
  ·
   rw [if_pos c3] at H
   have c3b0 : decide (0 < (a0.size : Int)) = true := decide_eq_true c3
   have c3b1 : decide (0 < a0.size) = true := decide_eq_true (by omega)
   clear c3
   by_cases c5 : (bt a0 0) = 114
   ·
    rw [if_pos c5] at H
    have c5b0 : ((bt a0 0) == 114) = true := beq_iff_eq.mpr c5
    have c5b1 : ((bt a0 0) != 114) = false := bR c5
    clear c5
    by_cases c6 : 1 ≤ (a0.size : Int)
    ·
     rw [if_pos c6] at H
     have c6b0 := eq_true c6
     have c6b1 : decide (1 ≤ (a0.size : Int)) = true := decide_eq_true c6
     clear c6
     replace H := oB H
     obtain ⟨⟨t306, t307⟩, A70, H⟩ := H
     replace H : (if t307 = true then (if t306 ≥ 0 then (some (wrap64 (t306), decide (t306 < 16))) else (some (wrap64 (t306), false))) else (some (wrap64 (t306), false))) = some (r1, r2) := H
     have A7 := mK A70
     clear A70
     by_cases c8 : t307 = true
     ·
      subst c8
      have H1 : (if t306 ≥ 0 then (some (wrap64 (t306), decide (t306 < 16))) else (some (wrap64 (t306), false))) = some (r1, r2) := by rw [if_pos rfl] at H; exact H
      clear H
      have H := H1
      clear H1
      by_cases c9 : t306 ≥ 0
      ·
       rw [if_pos c9] at H
       have c9b0 : decide (0 ≤ t306) = true := decide_eq_true c9
       clear c9
       simp only [Option.some.injEq, Prod.mk.injEq] at H
       obtain ⟨rfl, rfl⟩ := H
       have p4 : 0 ≤ (0 : Int) := (by omega)
       have q4 : 0 < a0.size := (by have : (0 : Int) < (a0.size : Int) := of_decide_eq_true (by first | (with_reducible assumption) | assumption); omega)
       have hx4 : ∀ h : 0 < a0.size, ((a0[0]'h).toNat : Int) = bt a0 0 := bt_at a0 0
       clear p4
       have qi4 : (0 < (a0.size : Int)) = True := eq_true (of_decide_eq_true (by first | (with_reducible assumption) | assumption))
       replace q4 := eq_true q4
       go_enter Try.func34, Try.ntmps34
       go_wp2_with (first | ((with_reducible refine gate_callee (f := 33) rfl ?_); refine goesL_ (some 17) rfl rfl Try.func33 (by kernel_rfl) rfl #[.string (a0.extract 1 a0.size)] rfl (by (try simp only [List.map_toArray, List.map_cons, List.map_nil]); first | done | rfl) ?_; (with_reducible refine (word_Parse.calls k (a0.extract 1 a0.size) t306 true _ A7.out).mono ?_); rintro e w' ⟨rfl, ⟨nd, rfl⟩⟩; refine ⟨_, rfl, ?_⟩))
       go_ret2
       exact ⟨by first | rfl | (simp; done) | (simp [*]; done), by repeat (first | exact Drawn0.refl _ | apply Drawn0.step)⟩
      ·
       rw [if_neg c9] at H
       have c9b0 : decide (0 ≤ t306) = false := decide_eq_false c9
       clear c9
       simp only [Option.some.injEq, Prod.mk.injEq] at H
       obtain ⟨rfl, rfl⟩ := H
       have p4 : 0 ≤ (0 : Int) := (by omega)
       have q4 : 0 < a0.size := (by have : (0 : Int) < (a0.size : Int) := of_decide_eq_true (by first | (with_reducible assumption) | assumption); omega)
       have hx4 : ∀ h : 0 < a0.size, ((a0[0]'h).toNat : Int) = bt a0 0 := bt_at a0 0
       clear p4
       have qi4 : (0 < (a0.size : Int)) = True := eq_true (of_decide_eq_true (by first | (with_reducible assumption) | assumption))
       replace q4 := eq_true q4
       go_enter Try.func34, Try.ntmps34
       go_wp2_with (first | ((with_reducible refine gate_callee (f := 33) rfl ?_); refine goesL_ (some 17) rfl rfl Try.func33 (by kernel_rfl) rfl #[.string (a0.extract 1 a0.size)] rfl (by (try simp only [List.map_toArray, List.map_cons, List.map_nil]); first | done | rfl) ?_; (with_reducible refine (word_Parse.calls k (a0.extract 1 a0.size) t306 true _ A7.out).mono ?_); rintro e w' ⟨rfl, ⟨nd, rfl⟩⟩; refine ⟨_, rfl, ?_⟩))
       go_ret2
       exact ⟨by first | rfl | (simp; done) | (simp [*]; done), by repeat (first | exact Drawn0.refl _ | apply Drawn0.step)⟩
     ·
      replace c8 := Bool.eq_false_iff.mpr c8
      subst c8
      have H1 : (some (wrap64 (t306), false)) = some (r1, r2) := by rw [if_neg (show ¬ (false = true) by decide)] at H; exact H
      clear H
      have H := H1
      clear H1
      simp only [Option.some.injEq, Prod.mk.injEq] at H
      obtain ⟨rfl, rfl⟩ := H
      have p4 : 0 ≤ (0 : Int) := (by omega)
      have q4 : 0 < a0.size := (by have : (0 : Int) < (a0.size : Int) := of_decide_eq_true (by first | (with_reducible assumption) | assumption); omega)
      have hx4 : ∀ h : 0 < a0.size, ((a0[0]'h).toNat : Int) = bt a0 0 := bt_at a0 0
      clear p4
      have qi4 : (0 < (a0.size : Int)) = True := eq_true (of_decide_eq_true (by first | (with_reducible assumption) | assumption))
      replace q4 := eq_true q4
      go_enter Try.func34, Try.ntmps34
      go_wp2_with (first | ((with_reducible refine gate_callee (f := 33) rfl ?_); refine goesL_ (some 17) rfl rfl Try.func33 (by kernel_rfl) rfl #[.string (a0.extract 1 a0.size)] rfl (by (try simp only [List.map_toArray, List.map_cons, List.map_nil]); first | done | rfl) ?_; (with_reducible refine (word_Parse.calls k (a0.extract 1 a0.size) t306 false _ A7.out).mono ?_); rintro e w' ⟨rfl, ⟨nd, rfl⟩⟩; refine ⟨_, rfl, ?_⟩))
      go_ret2
      exact ⟨by first | rfl | (simp; done) | (simp [*]; done), by repeat (first | exact Drawn0.refl _ | apply Drawn0.step)⟩
    ·
     rw [if_neg c6] at H
     exact absurd H (by simp)
   ·
    rw [if_neg c5] at H
    have c5b0 : ((bt a0 0) == 114) = false := bQ c5
    have c5b1 : ((bt a0 0) != 114) = true := bne_iff_ne.mpr c5
    simp only [Option.some.injEq, Prod.mk.injEq] at H
    obtain ⟨rfl, rfl⟩ := H
    have p4 : 0 ≤ (0 : Int) := (by omega)
    have q4 : 0 < a0.size := (by have : (0 : Int) < (a0.size : Int) := of_decide_eq_true (by first | (with_reducible assumption) | assumption); omega)
    have hx4 : ∀ h : 0 < a0.size, ((a0[0]'h).toNat : Int) = bt a0 0 := bt_at a0 0
    clear p4
    have qi4 : (0 < (a0.size : Int)) = True := eq_true (of_decide_eq_true (by first | (with_reducible assumption) | assumption))
    replace q4 := eq_true q4
    go_enter Try.func34, Try.ntmps34
    go_wp2
    go_ret2
    exact ⟨by first | rfl | (simp; done) | (simp [*]; done), by repeat (first | exact Drawn0.refl _ | apply Drawn0.step)⟩
  ·
   rw [if_neg c3] at H
   exact absurd H (by simp)

end Go.Proofs.Ytmajngcgejkghaa.P

namespace Go.Proofs.Ytmajngcgejkghaa.P
open Go.RowKit Go.Proofs.YtmajngcgejkghaaW.PrintWords Go.Proofs.YtmajngcgejkghaaW.PrintLast Go.Proofs.YtmajngcgejkghaaW.PrintMore
attribute [local go_sem] max2_int min2_int max_two min_two max_three min_three max_four min_four   -- for this text's walks alone
set_option linter.unusedVariables false
set_option linter.unusedSimpArgs false

/-! ### instr_Fill: function 22 -/
/-- Which fields an operation of a shape has, by their places in the instruction. -/
def fi_ps (s : Int) : Option (List Nat) :=
 if s = 0 then some [] else if s = 1 then some [1, 4] else if s = 2 then some [1, 4] else if s = 3 then some [1, 2, 4] else if s = 4 then some [1, 2, 4]
 else if s = 5 then some [1, 2, 3] else if s = 6 then some [1] else if s = 7 then some [4] else if s = 8 then some [4] else none
def fi_put (p : Nat) (n a b c i : Int) : Int × Int × Int × Int :=
 if p = 1 then (n, b, c, i) else if p = 2 then (a, n, c, i) else if p = 3 then (a, b, n, i) else (a, b, c, n)
def fi_num (p : Nat) (op : Int) : Bool := p == 4 || (op == 26 && p == 2)
def instr_Fill.go (k : Nat) (op : Int) (l : List ByteArray) : List Nat → Nat → Int → Int → Int → Int → Option (Option (Int × Int × Int × Int))
 | [], _, a, b, c, i => some (some (a, b, c, i))
 | p :: ps, j, a, b, c, i => (word_Parse.f k (rdOf ByteArray.empty l (j : Int))).bind fun t =>
  if fi_num p op = true then (if t.2 = true then instr_Fill.go k op l ps (j + 1) (fi_put p (wrap64 t.1) a b c i).1 (fi_put p (wrap64 t.1) a b c i).2.1 (fi_put p (wrap64 t.1) a b c i).2.2.1 (fi_put p (wrap64 t.1) a b c i).2.2.2 else some none)
  else (instr_register.f k (rdOf ByteArray.empty l (j : Int))).bind fun u =>
   if u.2 = true then instr_Fill.go k op l ps (j + 1) (fi_put p u.1 a b c i).1 (fi_put p u.1 a b c i).2.1 (fi_put p u.1 a b c i).2.2.1 (fi_put p u.1 a b c i).2.2.2 else some none
def fi_no : Int × Int × Int × Int × Int × Bool := (0, 0, 0, 0, 0, false)
def instr_Fill.rest (k : Nat) (op : Int) (l : List ByteArray) (ps : List Nat) : Option (Int × Int × Int × Int × Int × Bool) :=
 if l.length = ps.length then (instr_Fill.go k op l ps 0 0 0 0 0).bind fun r => match r with
  | none => some fi_no
  | some q => (instr_Check.f k op q.1 q.2.1 q.2.2.1 q.2.2.2).bind fun e => some (op, q.1, q.2.1, q.2.2.1, q.2.2.2, decide (e = 0))
 else some fi_no
def instr_Fill.f (k : Nat) (op : Int) (l1 : List ByteArray) : Option (Int × Int × Int × Int × Int × Bool) :=
 (instr_Shape.f k op).bind fun s => match fi_ps s with
  | none => some fi_no
  | some ps => instr_Fill.rest k op l1 ps
theorem instr_Fill.go_mono (k : Nat) (op : Int) (l : List ByteArray) : ∀ (ps : List Nat) (j : Nat) (a b c i : Int), LeO (instr_Fill.go k op l ps j a b c i) (instr_Fill.go (k + 1) op l ps j a b c i)
 | [], _, _, _, _, _ => LeO.refl _
 | p :: ps, j, a, b, c, i => by
  unfold instr_Fill.go
  refine LeO.bind (word_Parse.mono _ _) (fun t => ?_)
  refine LeO.ite ?_ ?_
  ·
   refine LeO.ite (instr_Fill.go_mono k op l ps _ _ _ _ _) (LeO.refl _)
  ·
   refine LeO.bind (instr_register.mono _ _) (fun u => ?_)
   exact LeO.ite (instr_Fill.go_mono k op l ps _ _ _ _ _) (LeO.refl _)
theorem instr_Fill.mono : ∀ a0 a1 k, LeO (instr_Fill.f k a0 a1) (instr_Fill.f (k + 1) a0 a1) := by
 intro op l k
 unfold instr_Fill.f
 refine LeO.bind (instr_Shape.mono _ _) (fun s => ?_)
 cases fi_ps s with
 | none => exact LeO.refl _
 | some ps =>
  show LeO (instr_Fill.rest k op l ps) (instr_Fill.rest (k + 1) op l ps)
  unfold instr_Fill.rest
  refine LeO.ite ?_ (LeO.refl _)
  refine LeO.bind (instr_Fill.go_mono k op l ps _ _ _ _ _) (fun r => ?_)
  cases r with
  | none => exact LeO.refl _
  | some q => exact LeO.bind (instr_Check.mono _ _ _ _ _ _) (fun _ => LeO.refl _)
theorem fi_ps_some (s : Int) : (∃ ps, fi_ps s = some ps ∧ ps.length ≤ 3 ∧ ∀ p ∈ ps, p = 1 ∨ p = 2 ∨ p = 3 ∨ p = 4) ∨ fi_ps s = none := by
 unfold fi_ps
 repeat' split
 all_goals first | exact .inr rfl | exact .inl ⟨_, rfl, by simp, by simp⟩
def FiPs (w : World) (ib : Nat) (A : Option Addr) (ps : List Nat) : Prop := (A = none ∧ ps = []) ∨ ∃ pb, A = some ⟨pb, 0, none⟩ ∧ w.heap[pb]? = some (.cells (ps.map (fun p => Value.pointer (some ⟨ib, p, none⟩))).toArray 66 (0, 0))
theorem fi_w2 (w : World) (O0 O1 : Obj) (nd : Nat) : (((w.alloc O0).alloc O1).drewN nd).heap[w.heap.size]? = some O0 ∧ (((w.alloc O0).alloc O1).drewN nd).heap[w.heap.size + 1]? = some O1 ∧ (((w.alloc O0).alloc O1).drewN nd).heap.size = w.heap.size + 1 + 1 ∧ Below w.heap.size w (((w.alloc O0).alloc O1).drewN nd) := by
 have e : (w.alloc O0).heap.size = w.heap.size + 1 := by simp
 refine ⟨kN (kA (blk_new w O0) O1) nd, ?_, by simp, ?_⟩
 ·
  have := blk_new (w.alloc O0) O1
  rw [e] at this
  exact kN this nd
 ·
  repeat (first | exact Below.refl _ _ | apply bA | apply bN)
theorem fi_w3 (w : World) (O0 O1 O2 : Obj) (nd : Nat) : ((((w.alloc O0).alloc O1).drewN nd).alloc O2).heap[w.heap.size]? = some O0 ∧ ((((w.alloc O0).alloc O1).drewN nd).alloc O2).heap[w.heap.size + 1]? = some O1 ∧ ((((w.alloc O0).alloc O1).drewN nd).alloc O2).heap[w.heap.size + 1 + 1]? = some O2 ∧ Below w.heap.size w ((((w.alloc O0).alloc O1).drewN nd).alloc O2) := by
 obtain ⟨h0, h1, hs, hb⟩ := fi_w2 w O0 O1 nd
 refine ⟨kA h0 O2, kA h1 O2, ?_, bA hb _⟩
 have := blk_new (((w.alloc O0).alloc O1).drewN nd) O2
 rw [hs] at this
 exact this
theorem fi_five {w : World} {g : Nat} {t : TypeId} {x0 x1 x2 x3 x4 : Value} (h : w.heap[g]? = some (.cells #[x0, x1, x2, x3, x4] t (0, 0))) (y0 y1 y2 y3 y4 : Value) :
 (((((w.setCell ⟨g, 0, none⟩ y0).setCell ⟨g, 1, none⟩ y1).setCell ⟨g, 2, none⟩ y2).setCell ⟨g, 3, none⟩ y3).setCell ⟨g, 4, none⟩ y4).heap[g]? = some (.cells #[y0, y1, y2, y3, y4] t (0, 0)) :=
 kP (kP (kP (kP (kP h 0 y0 rfl) 1 y1 rfl) 2 y2 rfl) 3 y3 rfl) 4 y4 rfl
theorem fi_fiveb {w0 w : World} {g : Nat} (hb : Below w0.heap.size w0 w) (hg : w0.heap.size ≤ g) (y0 y1 y2 y3 y4 : Value) :
 Below w0.heap.size w0 (((((w.setCell ⟨g, 0, none⟩ y0).setCell ⟨g, 1, none⟩ y1).setCell ⟨g, 2, none⟩ y2).setCell ⟨g, 3, none⟩ y3).setCell ⟨g, 4, none⟩ y4) :=
 bS (bS (bS (bS (bS hb hg) hg) hg) hg) hg
theorem fi_cf {w : World} {g : Nat} {t : TypeId} {x0 x1 x2 x3 x4 : Value} (h : w.heap[g]? = some (.cells #[x0, x1, x2, x3, x4] t (0, 0))) : w.cell? ⟨g, 0, none⟩ = some x0 ∧ w.cell? ⟨g, 1, none⟩ = some x1 ∧ w.cell? ⟨g, 2, none⟩ = some x2 ∧ w.cell? ⟨g, 3, none⟩ = some x3 ∧ w.cell? ⟨g, 4, none⟩ = some x4 ∧
 w.frozen? ⟨g, 0, none⟩ = false ∧ w.frozen? ⟨g, 1, none⟩ = false ∧ w.frozen? ⟨g, 2, none⟩ = false ∧ w.frozen? ⟨g, 3, none⟩ = false ∧ w.frozen? ⟨g, 4, none⟩ = false :=
 ⟨(kC h 0).trans rfl, (kC h 1).trans rfl, (kC h 2).trans rfl, (kC h 3).trans rfl, (kC h 4).trans rfl, kF h 0, kF h 1, kF h 2, kF h 3, kF h 4⟩
theorem fi_far5 {w : World} {g : Nat} {t : TypeId} {x0 x1 x2 x3 x4 : Value} (h : w.heap[g + 1]? = some (.cells #[x0, x1, x2, x3, x4] t (0, 0))) (y0 y1 y2 y3 y4 : Value) :
 (((((w.setCell ⟨g, 0, none⟩ y0).setCell ⟨g, 1, none⟩ y1).setCell ⟨g, 2, none⟩ y2).setCell ⟨g, 3, none⟩ y3).setCell ⟨g, 4, none⟩ y4).cell? ⟨g + 1, 0, none⟩ = some x0 ∧
 (((((w.setCell ⟨g, 0, none⟩ y0).setCell ⟨g, 1, none⟩ y1).setCell ⟨g, 2, none⟩ y2).setCell ⟨g, 3, none⟩ y3).setCell ⟨g, 4, none⟩ y4).cell? ⟨g + 1, 1, none⟩ = some x1 ∧
 (((((w.setCell ⟨g, 0, none⟩ y0).setCell ⟨g, 1, none⟩ y1).setCell ⟨g, 2, none⟩ y2).setCell ⟨g, 3, none⟩ y3).setCell ⟨g, 4, none⟩ y4).cell? ⟨g + 1, 2, none⟩ = some x2 ∧
 (((((w.setCell ⟨g, 0, none⟩ y0).setCell ⟨g, 1, none⟩ y1).setCell ⟨g, 2, none⟩ y2).setCell ⟨g, 3, none⟩ y3).setCell ⟨g, 4, none⟩ y4).cell? ⟨g + 1, 3, none⟩ = some x3 ∧
 (((((w.setCell ⟨g, 0, none⟩ y0).setCell ⟨g, 1, none⟩ y1).setCell ⟨g, 2, none⟩ y2).setCell ⟨g, 3, none⟩ y3).setCell ⟨g, 4, none⟩ y4).cell? ⟨g + 1, 4, none⟩ = some x4 := by
 have hn : g + 1 ≠ g := by omega
 have H := kR (kR (kR (kR (kR h (p := ⟨g, 0, none⟩) hn y0) (p := ⟨g, 1, none⟩) hn y1) (p := ⟨g, 2, none⟩) hn y2) (p := ⟨g, 3, none⟩) hn y3) (p := ⟨g, 4, none⟩) hn y4
 exact ⟨kC H 0, kC H 1, kC H 2, kC H 3, kC H 4⟩
set_option maxHeartbeats 4000000 in
set_option maxRecDepth 100000 in
theorem instr_Fill.calls (k : Nat) (op : Int) (A1 : Option Addr) (c1 : Nat) (l1 : List ByteArray) (r1 r2 r3 r4 r5 : Int) (r6 : Bool) (w : World) (hr1 : Kd.C Kd.string w A1 l1.length l1) (hc1 : l1.length ≤ c1)
 (h : instr_Fill.f k op l1 = some (r1, r2, r3, r4, r5, r6)) :
 Calls Try.prog 22 #[.int .i64 op, .slice A1 l1.length c1] w fun e w' => e = .returned (.tuple #[.agg #[.int .i64 r1, .int .i64 r2, .int .i64 r3, .int .i64 r4, .int .i64 r5], .bool r6]) ∧ Below w.heap.size w w' := by
 unfold instr_Fill.f at h
 replace h := oB h
 obtain ⟨s, hS, h⟩ := h
 have HS := mK hS
 have HR := mK h
 have HR1 := mK hr1
 clear hS h hr1
 go_enter Try.func22, Try.ntmps22
 go_upto_block 0 with (first | (go_at_call 13; ((with_reducible refine (instr_Shape.calls k op s _ HS.out).mono ?_)); rintro e w' ⟨rfl, ⟨nd, rfl⟩⟩))
 go_cut [7] (fun v7 wc => ∃ (ps : List Nat) (A : Option Addr), v7 = .slice A ps.length ps.length ∧ Aside0 (instr_Fill.rest k op l1 ps = some (r1, r2, r3, r4, r5, r6)) ∧ Aside0 (ps.length ≤ 3 ∧ ∀ p ∈ ps, p = 1 ∨ p = 2 ∨ p = 3 ∨ p = 4) ∧ Aside0 (FiPs wc (w.heap.size + 1) A ps) ∧
  Aside0 (wc.heap[w.heap.size + 1]? = some (o5 op 0 0 0 0 23)) ∧
  Aside0 (wc.heap[w.heap.size]? = some (o5 0 0 0 0 0 23)) ∧ Aside0 (Below w.heap.size w wc))
 case first =>
  have hs : s = 0 ∨ s = 1 ∨ s = 2 ∨ s = 3 ∨ s = 4 ∨ s = 5 ∨ s = 6 ∨ s = 7 ∨ s = 8 ∨ (s ≠ 0 ∧ s ≠ 1 ∧ s ≠ 2 ∧ s ≠ 3 ∧ s ≠ 4 ∧ s ≠ 5 ∧ s ≠ 6 ∧ s ≠ 7 ∧ s ≠ 8) := by omega
  clear HS HR1
  rcases hs with rfl | rfl | rfl | rfl | rfl | rfl | rfl | rfl | rfl | ⟨h0, h1, h2, h3, h4, h5, h6, h7, h8⟩
  ·
   go_wp2
   go_meet
   case rel => exact ⟨[], none, rfl, HR, ⟨by simp, by simp⟩, ⟨.inl ⟨rfl, rfl⟩⟩, ⟨(fi_w2 w _ _ nd).2.1⟩, ⟨(fi_w2 w _ _ nd).1⟩, ⟨(fi_w2 w _ _ nd).2.2.2⟩⟩
  ·
   go_wp2
   go_meet
   case rel => exact ⟨[1, 4], some ⟨w.heap.size + 1 + 1, 0, none⟩, rfl, HR, ⟨by simp, by simp⟩, ⟨.inr ⟨_, rfl, (fi_w3 w _ _ _ nd).2.2.1⟩⟩, ⟨(fi_w3 w _ _ _ nd).2.1⟩, ⟨(fi_w3 w _ _ _ nd).1⟩, ⟨(fi_w3 w _ _ _ nd).2.2.2⟩⟩
  ·
   go_wp2
   go_meet
   case rel => exact ⟨[1, 4], some ⟨w.heap.size + 1 + 1, 0, none⟩, rfl, HR, ⟨by simp, by simp⟩, ⟨.inr ⟨_, rfl, (fi_w3 w _ _ _ nd).2.2.1⟩⟩, ⟨(fi_w3 w _ _ _ nd).2.1⟩, ⟨(fi_w3 w _ _ _ nd).1⟩, ⟨(fi_w3 w _ _ _ nd).2.2.2⟩⟩
  ·
   go_wp2
   go_meet
   case rel => exact ⟨[1, 2, 4], some ⟨w.heap.size + 1 + 1, 0, none⟩, rfl, HR, ⟨by simp, by simp⟩, ⟨.inr ⟨_, rfl, (fi_w3 w _ _ _ nd).2.2.1⟩⟩, ⟨(fi_w3 w _ _ _ nd).2.1⟩, ⟨(fi_w3 w _ _ _ nd).1⟩, ⟨(fi_w3 w _ _ _ nd).2.2.2⟩⟩
  ·
   go_wp2
   go_meet
   case rel => exact ⟨[1, 2, 4], some ⟨w.heap.size + 1 + 1, 0, none⟩, rfl, HR, ⟨by simp, by simp⟩, ⟨.inr ⟨_, rfl, (fi_w3 w _ _ _ nd).2.2.1⟩⟩, ⟨(fi_w3 w _ _ _ nd).2.1⟩, ⟨(fi_w3 w _ _ _ nd).1⟩, ⟨(fi_w3 w _ _ _ nd).2.2.2⟩⟩
  ·
   go_wp2
   go_meet
   case rel => exact ⟨[1, 2, 3], some ⟨w.heap.size + 1 + 1, 0, none⟩, rfl, HR, ⟨by simp, by simp⟩, ⟨.inr ⟨_, rfl, (fi_w3 w _ _ _ nd).2.2.1⟩⟩, ⟨(fi_w3 w _ _ _ nd).2.1⟩, ⟨(fi_w3 w _ _ _ nd).1⟩, ⟨(fi_w3 w _ _ _ nd).2.2.2⟩⟩
  ·
   go_wp2
   go_meet
   case rel => exact ⟨[1], some ⟨w.heap.size + 1 + 1, 0, none⟩, rfl, HR, ⟨by simp, by simp⟩, ⟨.inr ⟨_, rfl, (fi_w3 w _ _ _ nd).2.2.1⟩⟩, ⟨(fi_w3 w _ _ _ nd).2.1⟩, ⟨(fi_w3 w _ _ _ nd).1⟩, ⟨(fi_w3 w _ _ _ nd).2.2.2⟩⟩
  ·
   go_wp2
   go_meet
   case rel => exact ⟨[4], some ⟨w.heap.size + 1 + 1, 0, none⟩, rfl, HR, ⟨by simp, by simp⟩, ⟨.inr ⟨_, rfl, (fi_w3 w _ _ _ nd).2.2.1⟩⟩, ⟨(fi_w3 w _ _ _ nd).2.1⟩, ⟨(fi_w3 w _ _ _ nd).1⟩, ⟨(fi_w3 w _ _ _ nd).2.2.2⟩⟩
  ·
   go_wp2
   go_meet
   case rel => exact ⟨[4], some ⟨w.heap.size + 1 + 1, 0, none⟩, rfl, HR, ⟨by simp, by simp⟩, ⟨.inr ⟨_, rfl, (fi_w3 w _ _ _ nd).2.2.1⟩⟩, ⟨(fi_w3 w _ _ _ nd).2.1⟩, ⟨(fi_w3 w _ _ _ nd).1⟩, ⟨(fi_w3 w _ _ _ nd).2.2.2⟩⟩
  ·
   have hn : fi_ps s = none := by unfold fi_ps; rw [if_neg h0, if_neg h1, if_neg h2, if_neg h3, if_neg h4, if_neg h5, if_neg h6, if_neg h7, if_neg h8]
   have HQ := HR.out
   rw [hn] at HQ
   cases HQ
   have b0 : (s == 0) = false := bQ h0
   have b1 : (s == 1) = false := bQ h1
   have b2 : (s == 2) = false := bQ h2
   have b3 : (s == 3) = false := bQ h3
   have b4 : (s == 4) = false := bQ h4
   have b5 : (s == 5) = false := bQ h5
   have b6 : (s == 6) = false := bQ h6
   have b7 : (s == 7) = false := bQ h7
   have b8 : (s == 8) = false := bQ h8
   clear HR
   go_wp2
   refine bodyPost_ret (results_list (rs := [.cell 4 23, .tmp 5]) rfl (by simp) (.cell w.heap.size 23 #[.int .i64 0, .int .i64 0, .int .i64 0, .int .i64 0, .int .i64 0] (0, 0) _ rfl (fi_five (fi_w2 w _ _ nd).1 _ _ _ _ _) Try.underlying23 rfl (by kernel_rfl) (.tmp .nil))) rfl ?_
   exact ⟨rfl, fi_fiveb (fi_w2 w _ _ nd).2.2.2 (Nat.le_refl _) _ _ _ _ _⟩
 case rest =>
  obtain ⟨ps, A, rfl, HR, HP, HF, HI, HZ, HB⟩ := hcut
  clear HS
  have HQ := HR.out
  clear HR
  unfold instr_Fill.rest at HQ
  by_cases hl : l1.length = ps.length
  ·
   rw [if_pos hl] at HQ
   replace HQ := oB HQ
   obtain ⟨q, hq, HQ⟩ := HQ
   have HQ' := mK HQ
   have hlb : ((l1.length : Int) != (ps.length : Int)) = false := by rw [hl]; simp
   have HL := mK hl
   clear HQ hl
   go_wp2
   go_loopg [55] (ps.length + 1) (fun kx v55 wr => ∃ (j : Nat) (a b c i : Int), v55 = .int .i64 j ∧ Aside0 (j + kx = ps.length + 1 ∧ j ≤ ps.length) ∧ Aside0 (instr_Fill.go k op l1 (ps.drop j) j a b c i = some q) ∧
    Aside0 (wr.heap[w.heap.size + 1]? = some (o5 op a b c i 23)) ∧
    Aside0 (wr.heap[w.heap.size]? = some (o5 0 0 0 0 0 23)) ∧ Aside0 (FiPs wr (w.heap.size + 1) A ps) ∧ Aside0 (Below w.heap.size w wr))
   case atStart => exact ⟨0, 0, 0, 0, 0, rfl, ⟨⟨by omega, by omega⟩⟩, ⟨by rw [List.drop_zero]; exact hq⟩, HI, HZ, HF, HB⟩
   case round =>
    -- ROUND
    obtain ⟨j, a, b, c, i, rfl, HJ, HGo, HI2, HZ2, HF2, HB2⟩ := hrel
    by_cases hj : j < ps.length
    ·
     have hp := HP.out.2 ps[j] (List.getElem_mem hj)
     have hg := HGo.out
     rw [List.drop_eq_getElem_cons hj] at hg
     obtain ⟨pb, hA, hpb⟩ : ∃ pb, A = some ⟨pb, 0, none⟩ ∧ wr.heap[pb]? = some (.cells (ps.map (fun p => Value.pointer (some ⟨w.heap.size + 1, p, none⟩))).toArray 66 (0, 0)) := by
      rcases HF2.out with ⟨_, h⟩ | h
      ·
       exact absurd hj (by rw [h]; simp)
      ·
       exact h
     subst hA
     have hne : pb ≠ w.heap.size + 1 := blk_ne hpb HI2.out (by decide)
     have HNE := mK hne
     have hcp : wr.cell? ⟨pb, j, none⟩ = some (.pointer (some ⟨w.heap.size + 1, ps[j], none⟩)) := by rw [kC hpb]; simp [hj]
     have HPB := mK hpb
     obtain ⟨ad, e, hx⟩ := Kd.at_string HR1.out (j : Int) (by omega) (by have := HL.out; omega)
     cases e
     rw [Int.toNat_natCast] at hx
     have p1 : (0 ≤ (j : Int)) = True := eq_true (by omega)
     have p2 : ((j : Int) < (ps.length : Int)) = True := eq_true (by omega)
     have p3 : ((j : Int) < (l1.length : Int)) = True := eq_true (by have := HL.out; omega)
     have p4 : decide ((j : Int) < (ps.length : Int)) = true := decide_eq_true (by omega)
     have p5 : decide (j < ps.length) = true := decide_eq_true hj
     have p6 : (j < ps.length) = True := eq_true hj
     have p7 : (j < l1.length) = True := eq_true (by have := HL.out; omega)
     have hw1 : wrap64 ((j : Int) + 1) = ((j + 1 : Nat) : Int) := by have := HP.out.1; unfold wrap64; omega
     generalize ps[j] = p at hp hg hcp
     unfold instr_Fill.go at hg
     generalize rdOf ByteArray.empty l1 (j : Int) = str at hg hx
     have HX := mK hx
     have HJ2 := mK hj
     have hx2 := kW HB2.out hx
     replace hg := oB hg
     obtain ⟨⟨n1, ok1⟩, hPa, hg⟩ := hg
     have HPa := mK hPa
     clear hPa hx hpb hne HF2 HGo hj
     rcases hp with rfl | rfl | rfl | rfl
     ·
      by_cases h26 : op = 26
      ·
       have b26 : (op == 26) = true := by rw [h26]; rfl
       clear h26
       rw [if_neg (by simp [fi_num])] at hg
       replace hg := oB hg
       obtain ⟨⟨n2, ok2⟩, hRe, hg⟩ := hg
       have HRe := mK hRe
       clear hRe
       go_upto_region 28 with (first | (go_at_call 33; ((with_reducible refine (word_Parse.calls k str n1 _ _ HPa.out).mono ?_)); rintro e w5 ⟨rfl, hd⟩; have hb := hd.below; have HI5 := mK (kB HI2.out hb); have HZ5 := mK (kB HZ2.out hb); have HQ5 := mK (kB HPB.out hb); have HB5 := mK (bP HB2.out hb); clear hd hb) | ((with_reducible refine gate_store (t := 3) (p := 71) rfl ?_); refine store_event (t := 3) (p := 71) (v := ?vs1) (w1 := (w5.setCell ⟨w.heap.size + 1, 1, none⟩ (.int .i64 (wrap64 n1)))) ?hg ?ho ?hn ?hr ?_; (case ho => rfl); (case hg => rfl); (case hn => rfl); (case hr => (have hz5 := kF HI5.out 1; have hc5 : w5.cell? ⟨w.heap.size + 1, 1, none⟩ = some (.int .i64 a) := kC HI5.out 1; first | (go_simp; done) | (go_simp; rfl))); intro w6 hw; have HI6 := mK (show w6.heap[w.heap.size + 1]? = some (o5 op (wrap64 n1) b c i 23) from (by rw [hw]; exact kP HI5.out 1 _ rfl)); have HZ6 := mK (show w6.heap[w.heap.size]? = some (o5 0 0 0 0 0 23) from (by rw [hw]; exact kR HZ5.out (by show w.heap.size ≠ w.heap.size + 1; omega) _)); have HB6 := mK (show Below w.heap.size w w6 from (by rw [hw]; exact bS HB5.out (by omega))); have HQ6 := mK (show w6.heap[pb]? = some (.cells (ps.map (fun p => Value.pointer (some ⟨w.heap.size + 1, p, none⟩))).toArray 66 (0, 0)) from (by rw [hw]; exact kR HQ5.out (by exact HNE.out) _)); have hx6 := kW HB6.out HX.out; have hn6 : (binOp .neq 66 (.pointer (some ⟨w.heap.size + 1, 1, none⟩)) (.pointer (some ⟨w.heap.size + 1, 4, none⟩))).run Try.prog w6 = .ok (.bool true) w6 := Go.Proofs.Ytmajngcgejkghaa.C.pt_neo w6 Try.underlying66 (by kernel_rfl) (by decide) HI6.out; have he6 : (binOp .eql 66 (.pointer (some ⟨w.heap.size + 1, 1, none⟩)) (.pointer (some ⟨w.heap.size + 1, 2, none⟩))).run Try.prog w6 = .ok (.bool false) w6 := Go.Proofs.Ytmajngcgejkghaa.C.pt_eqo w6 Try.underlying66 (by kernel_rfl) (by decide) HI6.out; clear hw) | (go_at_call 34; ((with_reducible refine (instr_register.calls k str n2 _ _ HRe.out).mono ?_)); rintro e w7 ⟨rfl, hd⟩; have hb := hd.below; have HI7 := mK (kB HI6.out hb); have HZ7 := mK (kB HZ6.out hb); have HQ7 := mK (kB HQ6.out hb); have HB7 := mK (bP HB6.out hb); clear hd hb) | ((with_reducible refine gate_store (t := 3) (p := 94) rfl ?_); refine store_event (t := 3) (p := 94) (v := ?vs2) (w1 := (w7.setCell ⟨w.heap.size + 1, 1, none⟩ (.int .i64 n2))) ?hg ?ho ?hn ?hr ?_; (case ho => rfl); (case hg => rfl); (case hn => rfl); (case hr => (have hz7 := kF HI7.out 1; have hc7 : w7.cell? ⟨w.heap.size + 1, 1, none⟩ = some (.int .i64 (wrap64 n1)) := kC HI7.out 1; first | (go_simp; done) | (go_simp; rfl))); intro w8 hw; have HI8 := mK (show w8.heap[w.heap.size + 1]? = some (o5 op n2 b c i 23) from (by rw [hw]; exact kP HI7.out 1 _ rfl)); have HZ8 := mK (show w8.heap[w.heap.size]? = some (o5 0 0 0 0 0 23) from (by rw [hw]; exact kR HZ7.out (by show w.heap.size ≠ w.heap.size + 1; omega) _)); have HB8 := mK (show Below w.heap.size w w8 from (by rw [hw]; exact bS HB7.out (by omega))); have HQ8 := mK (show w8.heap[pb]? = some (.cells (ps.map (fun p => Value.pointer (some ⟨w.heap.size + 1, p, none⟩))).toArray 66 (0, 0)) from (by rw [hw]; exact kR HQ7.out (by exact HNE.out) _)); clear hw) | (rw [hn6]; simp only [Result.andThen]; rw [Oper.upon_value]) | (rw [he6]; simp only [Result.andThen]; rw [Oper.upon_value]))
       cases ok2 with
       | false =>
        rw [if_neg (by simp)] at hg
        injection hg with hg
        subst hg
        have hq2 := HQ'.out
        cases hq2
        have hzb := HZ8.out; obtain ⟨cz0, cz1, cz2, cz3, cz4, fz0, fz1, fz2, fz3, fz4⟩ := fi_cf HZ8.out
        go_wp2
        (try rw [Exit.noGoto_ret])
        refine bodyPost_ret (results_list (rs := [.cell 4 23, .tmp 5]) rfl (by simp) (.cell w.heap.size 23 #[.int .i64 0, .int .i64 0, .int .i64 0, .int .i64 0, .int .i64 0] (0, 0) _ rfl (fi_five HZ8.out _ _ _ _ _) Try.underlying23 rfl (by kernel_rfl) (.tmp .nil))) rfl ?_
        exact ⟨rfl, fi_fiveb HB8.out (Nat.le_refl _) _ _ _ _ _⟩
       | true =>
        rw [if_pos rfl] at hg
        have HG2 := mK hg
        clear hg
        go_wp2
        go_roundg (ps.length - j)
        case measure => have := HJ.out; omega
        case rel => exact ⟨j + 1, n2, b, c, i, (by first | rfl | exact congrArg _ hw1 | (rw [hw1]; rfl)), ⟨by have := HJ.out; have := HJ2.out; exact ⟨by omega, by omega⟩⟩, HG2, HI8, HZ8, ⟨.inr ⟨pb, rfl, HQ8.out⟩⟩, HB8⟩
      ·
       have b26 : (op == 26) = false := bQ h26
       clear h26
       rw [if_neg (by simp [fi_num])] at hg
       replace hg := oB hg
       obtain ⟨⟨n2, ok2⟩, hRe, hg⟩ := hg
       have HRe := mK hRe
       clear hRe
       go_upto_region 28 with (first | (go_at_call 33; ((with_reducible refine (word_Parse.calls k str n1 _ _ HPa.out).mono ?_)); rintro e w5 ⟨rfl, hd⟩; have hb := hd.below; have HI5 := mK (kB HI2.out hb); have HZ5 := mK (kB HZ2.out hb); have HQ5 := mK (kB HPB.out hb); have HB5 := mK (bP HB2.out hb); clear hd hb) | ((with_reducible refine gate_store (t := 3) (p := 71) rfl ?_); refine store_event (t := 3) (p := 71) (v := ?vs1) (w1 := (w5.setCell ⟨w.heap.size + 1, 1, none⟩ (.int .i64 (wrap64 n1)))) ?hg ?ho ?hn ?hr ?_; (case ho => rfl); (case hg => rfl); (case hn => rfl); (case hr => (have hz5 := kF HI5.out 1; have hc5 : w5.cell? ⟨w.heap.size + 1, 1, none⟩ = some (.int .i64 a) := kC HI5.out 1; first | (go_simp; done) | (go_simp; rfl))); intro w6 hw; have HI6 := mK (show w6.heap[w.heap.size + 1]? = some (o5 op (wrap64 n1) b c i 23) from (by rw [hw]; exact kP HI5.out 1 _ rfl)); have HZ6 := mK (show w6.heap[w.heap.size]? = some (o5 0 0 0 0 0 23) from (by rw [hw]; exact kR HZ5.out (by show w.heap.size ≠ w.heap.size + 1; omega) _)); have HB6 := mK (show Below w.heap.size w w6 from (by rw [hw]; exact bS HB5.out (by omega))); have HQ6 := mK (show w6.heap[pb]? = some (.cells (ps.map (fun p => Value.pointer (some ⟨w.heap.size + 1, p, none⟩))).toArray 66 (0, 0)) from (by rw [hw]; exact kR HQ5.out (by exact HNE.out) _)); have hx6 := kW HB6.out HX.out; have hn6 : (binOp .neq 66 (.pointer (some ⟨w.heap.size + 1, 1, none⟩)) (.pointer (some ⟨w.heap.size + 1, 4, none⟩))).run Try.prog w6 = .ok (.bool true) w6 := Go.Proofs.Ytmajngcgejkghaa.C.pt_neo w6 Try.underlying66 (by kernel_rfl) (by decide) HI6.out; have he6 : (binOp .eql 66 (.pointer (some ⟨w.heap.size + 1, 1, none⟩)) (.pointer (some ⟨w.heap.size + 1, 2, none⟩))).run Try.prog w6 = .ok (.bool false) w6 := Go.Proofs.Ytmajngcgejkghaa.C.pt_eqo w6 Try.underlying66 (by kernel_rfl) (by decide) HI6.out; clear hw) | (go_at_call 34; ((with_reducible refine (instr_register.calls k str n2 _ _ HRe.out).mono ?_)); rintro e w7 ⟨rfl, hd⟩; have hb := hd.below; have HI7 := mK (kB HI6.out hb); have HZ7 := mK (kB HZ6.out hb); have HQ7 := mK (kB HQ6.out hb); have HB7 := mK (bP HB6.out hb); clear hd hb) | ((with_reducible refine gate_store (t := 3) (p := 94) rfl ?_); refine store_event (t := 3) (p := 94) (v := ?vs2) (w1 := (w7.setCell ⟨w.heap.size + 1, 1, none⟩ (.int .i64 n2))) ?hg ?ho ?hn ?hr ?_; (case ho => rfl); (case hg => rfl); (case hn => rfl); (case hr => (have hz7 := kF HI7.out 1; have hc7 : w7.cell? ⟨w.heap.size + 1, 1, none⟩ = some (.int .i64 (wrap64 n1)) := kC HI7.out 1; first | (go_simp; done) | (go_simp; rfl))); intro w8 hw; have HI8 := mK (show w8.heap[w.heap.size + 1]? = some (o5 op n2 b c i 23) from (by rw [hw]; exact kP HI7.out 1 _ rfl)); have HZ8 := mK (show w8.heap[w.heap.size]? = some (o5 0 0 0 0 0 23) from (by rw [hw]; exact kR HZ7.out (by show w.heap.size ≠ w.heap.size + 1; omega) _)); have HB8 := mK (show Below w.heap.size w w8 from (by rw [hw]; exact bS HB7.out (by omega))); have HQ8 := mK (show w8.heap[pb]? = some (.cells (ps.map (fun p => Value.pointer (some ⟨w.heap.size + 1, p, none⟩))).toArray 66 (0, 0)) from (by rw [hw]; exact kR HQ7.out (by exact HNE.out) _)); clear hw) | (rw [hn6]; simp only [Result.andThen]; rw [Oper.upon_value]) | (rw [he6]; simp only [Result.andThen]; rw [Oper.upon_value]))
       cases ok2 with
       | false =>
        rw [if_neg (by simp)] at hg
        injection hg with hg
        subst hg
        have hq2 := HQ'.out
        cases hq2
        have hzb := HZ8.out; obtain ⟨cz0, cz1, cz2, cz3, cz4, fz0, fz1, fz2, fz3, fz4⟩ := fi_cf HZ8.out
        go_wp2
        (try rw [Exit.noGoto_ret])
        refine bodyPost_ret (results_list (rs := [.cell 4 23, .tmp 5]) rfl (by simp) (.cell w.heap.size 23 #[.int .i64 0, .int .i64 0, .int .i64 0, .int .i64 0, .int .i64 0] (0, 0) _ rfl (fi_five HZ8.out _ _ _ _ _) Try.underlying23 rfl (by kernel_rfl) (.tmp .nil))) rfl ?_
        exact ⟨rfl, fi_fiveb HB8.out (Nat.le_refl _) _ _ _ _ _⟩
       | true =>
        rw [if_pos rfl] at hg
        have HG2 := mK hg
        clear hg
        go_wp2
        go_roundg (ps.length - j)
        case measure => have := HJ.out; omega
        case rel => exact ⟨j + 1, n2, b, c, i, (by first | rfl | exact congrArg _ hw1 | (rw [hw1]; rfl)), ⟨by have := HJ.out; have := HJ2.out; exact ⟨by omega, by omega⟩⟩, HG2, HI8, HZ8, ⟨.inr ⟨pb, rfl, HQ8.out⟩⟩, HB8⟩
     ·
      by_cases h26 : op = 26
      ·
       have b26 : (op == 26) = true := by rw [h26]; rfl
       clear h26
       rw [if_pos (by rw [fi_num, b26]; rfl)] at hg
       go_upto_region 28 with (first | (go_at_call 33; ((with_reducible refine (word_Parse.calls k str n1 _ _ HPa.out).mono ?_)); rintro e w5 ⟨rfl, hd⟩; have hb := hd.below; have HI5 := mK (kB HI2.out hb); have HZ5 := mK (kB HZ2.out hb); have HQ5 := mK (kB HPB.out hb); have HB5 := mK (bP HB2.out hb); clear hd hb) | ((with_reducible refine gate_store (t := 3) (p := 71) rfl ?_); refine store_event (t := 3) (p := 71) (v := ?vs1) (w1 := (w5.setCell ⟨w.heap.size + 1, 2, none⟩ (.int .i64 (wrap64 n1)))) ?hg ?ho ?hn ?hr ?_; (case ho => rfl); (case hg => rfl); (case hn => rfl); (case hr => (have hz5 := kF HI5.out 2; have hc5 : w5.cell? ⟨w.heap.size + 1, 2, none⟩ = some (.int .i64 b) := kC HI5.out 2; first | (go_simp; done) | (go_simp; rfl))); intro w6 hw; have HI6 := mK (show w6.heap[w.heap.size + 1]? = some (o5 op a (wrap64 n1) c i 23) from (by rw [hw]; exact kP HI5.out 2 _ rfl)); have HZ6 := mK (show w6.heap[w.heap.size]? = some (o5 0 0 0 0 0 23) from (by rw [hw]; exact kR HZ5.out (by show w.heap.size ≠ w.heap.size + 1; omega) _)); have HB6 := mK (show Below w.heap.size w w6 from (by rw [hw]; exact bS HB5.out (by omega))); have HQ6 := mK (show w6.heap[pb]? = some (.cells (ps.map (fun p => Value.pointer (some ⟨w.heap.size + 1, p, none⟩))).toArray 66 (0, 0)) from (by rw [hw]; exact kR HQ5.out (by exact HNE.out) _)); have hx6 := kW HB6.out HX.out; have hn6 : (binOp .neq 66 (.pointer (some ⟨w.heap.size + 1, 2, none⟩)) (.pointer (some ⟨w.heap.size + 1, 4, none⟩))).run Try.prog w6 = .ok (.bool true) w6 := Go.Proofs.Ytmajngcgejkghaa.C.pt_neo w6 Try.underlying66 (by kernel_rfl) (by decide) HI6.out; have he6 : (binOp .eql 66 (.pointer (some ⟨w.heap.size + 1, 2, none⟩)) (.pointer (some ⟨w.heap.size + 1, 2, none⟩))).run Try.prog w6 = .ok (.bool true) w6 := Go.Proofs.Ytmajngcgejkghaa.C.pt_eqs w6 _ Try.underlying66 (by kernel_rfl); clear hw) | (rw [hn6]; simp only [Result.andThen]; rw [Oper.upon_value]) | (rw [he6]; simp only [Result.andThen]; rw [Oper.upon_value]))
       have hok : ok1 = ok1 := rfl; clear hok
       cases ok1 with
       | false =>
        rw [if_neg (by simp)] at hg
        injection hg with hg
        subst hg
        have hq2 := HQ'.out
        cases hq2
        have hzb := HZ6.out; obtain ⟨cz0, cz1, cz2, cz3, cz4, fz0, fz1, fz2, fz3, fz4⟩ := fi_cf HZ6.out
        go_wp2
        (try rw [Exit.noGoto_ret])
        refine bodyPost_ret (results_list (rs := [.cell 4 23, .tmp 5]) rfl (by simp) (.cell w.heap.size 23 #[.int .i64 0, .int .i64 0, .int .i64 0, .int .i64 0, .int .i64 0] (0, 0) _ rfl (fi_five HZ6.out _ _ _ _ _) Try.underlying23 rfl (by kernel_rfl) (.tmp .nil))) rfl ?_
        exact ⟨rfl, fi_fiveb HB6.out (Nat.le_refl _) _ _ _ _ _⟩
       | true =>
        rw [if_pos rfl] at hg
        have HG2 := mK hg
        clear hg
        go_wp2
        go_roundg (ps.length - j)
        case measure => have := HJ.out; omega
        case rel => exact ⟨j + 1, a, (wrap64 n1), c, i, (by first | rfl | exact congrArg _ hw1 | (rw [hw1]; rfl)), ⟨by have := HJ.out; have := HJ2.out; exact ⟨by omega, by omega⟩⟩, HG2, HI6, HZ6, ⟨.inr ⟨pb, rfl, HQ6.out⟩⟩, HB6⟩
      ·
       have b26 : (op == 26) = false := bQ h26
       clear h26
       rw [if_neg (by rw [fi_num, b26]; simp)] at hg
       replace hg := oB hg
       obtain ⟨⟨n2, ok2⟩, hRe, hg⟩ := hg
       have HRe := mK hRe
       clear hRe
       go_upto_region 28 with (first | (go_at_call 33; ((with_reducible refine (word_Parse.calls k str n1 _ _ HPa.out).mono ?_)); rintro e w5 ⟨rfl, hd⟩; have hb := hd.below; have HI5 := mK (kB HI2.out hb); have HZ5 := mK (kB HZ2.out hb); have HQ5 := mK (kB HPB.out hb); have HB5 := mK (bP HB2.out hb); clear hd hb) | ((with_reducible refine gate_store (t := 3) (p := 71) rfl ?_); refine store_event (t := 3) (p := 71) (v := ?vs1) (w1 := (w5.setCell ⟨w.heap.size + 1, 2, none⟩ (.int .i64 (wrap64 n1)))) ?hg ?ho ?hn ?hr ?_; (case ho => rfl); (case hg => rfl); (case hn => rfl); (case hr => (have hz5 := kF HI5.out 2; have hc5 : w5.cell? ⟨w.heap.size + 1, 2, none⟩ = some (.int .i64 b) := kC HI5.out 2; first | (go_simp; done) | (go_simp; rfl))); intro w6 hw; have HI6 := mK (show w6.heap[w.heap.size + 1]? = some (o5 op a (wrap64 n1) c i 23) from (by rw [hw]; exact kP HI5.out 2 _ rfl)); have HZ6 := mK (show w6.heap[w.heap.size]? = some (o5 0 0 0 0 0 23) from (by rw [hw]; exact kR HZ5.out (by show w.heap.size ≠ w.heap.size + 1; omega) _)); have HB6 := mK (show Below w.heap.size w w6 from (by rw [hw]; exact bS HB5.out (by omega))); have HQ6 := mK (show w6.heap[pb]? = some (.cells (ps.map (fun p => Value.pointer (some ⟨w.heap.size + 1, p, none⟩))).toArray 66 (0, 0)) from (by rw [hw]; exact kR HQ5.out (by exact HNE.out) _)); have hx6 := kW HB6.out HX.out; have hn6 : (binOp .neq 66 (.pointer (some ⟨w.heap.size + 1, 2, none⟩)) (.pointer (some ⟨w.heap.size + 1, 4, none⟩))).run Try.prog w6 = .ok (.bool true) w6 := Go.Proofs.Ytmajngcgejkghaa.C.pt_neo w6 Try.underlying66 (by kernel_rfl) (by decide) HI6.out; have he6 : (binOp .eql 66 (.pointer (some ⟨w.heap.size + 1, 2, none⟩)) (.pointer (some ⟨w.heap.size + 1, 2, none⟩))).run Try.prog w6 = .ok (.bool true) w6 := Go.Proofs.Ytmajngcgejkghaa.C.pt_eqs w6 _ Try.underlying66 (by kernel_rfl); clear hw) | (go_at_call 34; ((with_reducible refine (instr_register.calls k str n2 _ _ HRe.out).mono ?_)); rintro e w7 ⟨rfl, hd⟩; have hb := hd.below; have HI7 := mK (kB HI6.out hb); have HZ7 := mK (kB HZ6.out hb); have HQ7 := mK (kB HQ6.out hb); have HB7 := mK (bP HB6.out hb); clear hd hb) | ((with_reducible refine gate_store (t := 3) (p := 94) rfl ?_); refine store_event (t := 3) (p := 94) (v := ?vs2) (w1 := (w7.setCell ⟨w.heap.size + 1, 2, none⟩ (.int .i64 n2))) ?hg ?ho ?hn ?hr ?_; (case ho => rfl); (case hg => rfl); (case hn => rfl); (case hr => (have hz7 := kF HI7.out 2; have hc7 : w7.cell? ⟨w.heap.size + 1, 2, none⟩ = some (.int .i64 (wrap64 n1)) := kC HI7.out 2; first | (go_simp; done) | (go_simp; rfl))); intro w8 hw; have HI8 := mK (show w8.heap[w.heap.size + 1]? = some (o5 op a n2 c i 23) from (by rw [hw]; exact kP HI7.out 2 _ rfl)); have HZ8 := mK (show w8.heap[w.heap.size]? = some (o5 0 0 0 0 0 23) from (by rw [hw]; exact kR HZ7.out (by show w.heap.size ≠ w.heap.size + 1; omega) _)); have HB8 := mK (show Below w.heap.size w w8 from (by rw [hw]; exact bS HB7.out (by omega))); have HQ8 := mK (show w8.heap[pb]? = some (.cells (ps.map (fun p => Value.pointer (some ⟨w.heap.size + 1, p, none⟩))).toArray 66 (0, 0)) from (by rw [hw]; exact kR HQ7.out (by exact HNE.out) _)); clear hw) | (rw [hn6]; simp only [Result.andThen]; rw [Oper.upon_value]) | (rw [he6]; simp only [Result.andThen]; rw [Oper.upon_value]))
       cases ok2 with
       | false =>
        rw [if_neg (by simp)] at hg
        injection hg with hg
        subst hg
        have hq2 := HQ'.out
        cases hq2
        have hzb := HZ8.out; obtain ⟨cz0, cz1, cz2, cz3, cz4, fz0, fz1, fz2, fz3, fz4⟩ := fi_cf HZ8.out
        go_wp2
        (try rw [Exit.noGoto_ret])
        refine bodyPost_ret (results_list (rs := [.cell 4 23, .tmp 5]) rfl (by simp) (.cell w.heap.size 23 #[.int .i64 0, .int .i64 0, .int .i64 0, .int .i64 0, .int .i64 0] (0, 0) _ rfl (fi_five HZ8.out _ _ _ _ _) Try.underlying23 rfl (by kernel_rfl) (.tmp .nil))) rfl ?_
        exact ⟨rfl, fi_fiveb HB8.out (Nat.le_refl _) _ _ _ _ _⟩
       | true =>
        rw [if_pos rfl] at hg
        have HG2 := mK hg
        clear hg
        go_wp2
        go_roundg (ps.length - j)
        case measure => have := HJ.out; omega
        case rel => exact ⟨j + 1, a, n2, c, i, (by first | rfl | exact congrArg _ hw1 | (rw [hw1]; rfl)), ⟨by have := HJ.out; have := HJ2.out; exact ⟨by omega, by omega⟩⟩, HG2, HI8, HZ8, ⟨.inr ⟨pb, rfl, HQ8.out⟩⟩, HB8⟩
     ·
      by_cases h26 : op = 26
      ·
       have b26 : (op == 26) = true := by rw [h26]; rfl
       clear h26
       rw [if_neg (by simp [fi_num])] at hg
       replace hg := oB hg
       obtain ⟨⟨n2, ok2⟩, hRe, hg⟩ := hg
       have HRe := mK hRe
       clear hRe
       go_upto_region 28 with (first | (go_at_call 33; ((with_reducible refine (word_Parse.calls k str n1 _ _ HPa.out).mono ?_)); rintro e w5 ⟨rfl, hd⟩; have hb := hd.below; have HI5 := mK (kB HI2.out hb); have HZ5 := mK (kB HZ2.out hb); have HQ5 := mK (kB HPB.out hb); have HB5 := mK (bP HB2.out hb); clear hd hb) | ((with_reducible refine gate_store (t := 3) (p := 71) rfl ?_); refine store_event (t := 3) (p := 71) (v := ?vs1) (w1 := (w5.setCell ⟨w.heap.size + 1, 3, none⟩ (.int .i64 (wrap64 n1)))) ?hg ?ho ?hn ?hr ?_; (case ho => rfl); (case hg => rfl); (case hn => rfl); (case hr => (have hz5 := kF HI5.out 3; have hc5 : w5.cell? ⟨w.heap.size + 1, 3, none⟩ = some (.int .i64 c) := kC HI5.out 3; first | (go_simp; done) | (go_simp; rfl))); intro w6 hw; have HI6 := mK (show w6.heap[w.heap.size + 1]? = some (o5 op a b (wrap64 n1) i 23) from (by rw [hw]; exact kP HI5.out 3 _ rfl)); have HZ6 := mK (show w6.heap[w.heap.size]? = some (o5 0 0 0 0 0 23) from (by rw [hw]; exact kR HZ5.out (by show w.heap.size ≠ w.heap.size + 1; omega) _)); have HB6 := mK (show Below w.heap.size w w6 from (by rw [hw]; exact bS HB5.out (by omega))); have HQ6 := mK (show w6.heap[pb]? = some (.cells (ps.map (fun p => Value.pointer (some ⟨w.heap.size + 1, p, none⟩))).toArray 66 (0, 0)) from (by rw [hw]; exact kR HQ5.out (by exact HNE.out) _)); have hx6 := kW HB6.out HX.out; have hn6 : (binOp .neq 66 (.pointer (some ⟨w.heap.size + 1, 3, none⟩)) (.pointer (some ⟨w.heap.size + 1, 4, none⟩))).run Try.prog w6 = .ok (.bool true) w6 := Go.Proofs.Ytmajngcgejkghaa.C.pt_neo w6 Try.underlying66 (by kernel_rfl) (by decide) HI6.out; have he6 : (binOp .eql 66 (.pointer (some ⟨w.heap.size + 1, 3, none⟩)) (.pointer (some ⟨w.heap.size + 1, 2, none⟩))).run Try.prog w6 = .ok (.bool false) w6 := Go.Proofs.Ytmajngcgejkghaa.C.pt_eqo w6 Try.underlying66 (by kernel_rfl) (by decide) HI6.out; clear hw) | (go_at_call 34; ((with_reducible refine (instr_register.calls k str n2 _ _ HRe.out).mono ?_)); rintro e w7 ⟨rfl, hd⟩; have hb := hd.below; have HI7 := mK (kB HI6.out hb); have HZ7 := mK (kB HZ6.out hb); have HQ7 := mK (kB HQ6.out hb); have HB7 := mK (bP HB6.out hb); clear hd hb) | ((with_reducible refine gate_store (t := 3) (p := 94) rfl ?_); refine store_event (t := 3) (p := 94) (v := ?vs2) (w1 := (w7.setCell ⟨w.heap.size + 1, 3, none⟩ (.int .i64 n2))) ?hg ?ho ?hn ?hr ?_; (case ho => rfl); (case hg => rfl); (case hn => rfl); (case hr => (have hz7 := kF HI7.out 3; have hc7 : w7.cell? ⟨w.heap.size + 1, 3, none⟩ = some (.int .i64 (wrap64 n1)) := kC HI7.out 3; first | (go_simp; done) | (go_simp; rfl))); intro w8 hw; have HI8 := mK (show w8.heap[w.heap.size + 1]? = some (o5 op a b n2 i 23) from (by rw [hw]; exact kP HI7.out 3 _ rfl)); have HZ8 := mK (show w8.heap[w.heap.size]? = some (o5 0 0 0 0 0 23) from (by rw [hw]; exact kR HZ7.out (by show w.heap.size ≠ w.heap.size + 1; omega) _)); have HB8 := mK (show Below w.heap.size w w8 from (by rw [hw]; exact bS HB7.out (by omega))); have HQ8 := mK (show w8.heap[pb]? = some (.cells (ps.map (fun p => Value.pointer (some ⟨w.heap.size + 1, p, none⟩))).toArray 66 (0, 0)) from (by rw [hw]; exact kR HQ7.out (by exact HNE.out) _)); clear hw) | (rw [hn6]; simp only [Result.andThen]; rw [Oper.upon_value]) | (rw [he6]; simp only [Result.andThen]; rw [Oper.upon_value]))
       cases ok2 with
       | false =>
        rw [if_neg (by simp)] at hg
        injection hg with hg
        subst hg
        have hq2 := HQ'.out
        cases hq2
        have hzb := HZ8.out; obtain ⟨cz0, cz1, cz2, cz3, cz4, fz0, fz1, fz2, fz3, fz4⟩ := fi_cf HZ8.out
        go_wp2
        (try rw [Exit.noGoto_ret])
        refine bodyPost_ret (results_list (rs := [.cell 4 23, .tmp 5]) rfl (by simp) (.cell w.heap.size 23 #[.int .i64 0, .int .i64 0, .int .i64 0, .int .i64 0, .int .i64 0] (0, 0) _ rfl (fi_five HZ8.out _ _ _ _ _) Try.underlying23 rfl (by kernel_rfl) (.tmp .nil))) rfl ?_
        exact ⟨rfl, fi_fiveb HB8.out (Nat.le_refl _) _ _ _ _ _⟩
       | true =>
        rw [if_pos rfl] at hg
        have HG2 := mK hg
        clear hg
        go_wp2
        go_roundg (ps.length - j)
        case measure => have := HJ.out; omega
        case rel => exact ⟨j + 1, a, b, n2, i, (by first | rfl | exact congrArg _ hw1 | (rw [hw1]; rfl)), ⟨by have := HJ.out; have := HJ2.out; exact ⟨by omega, by omega⟩⟩, HG2, HI8, HZ8, ⟨.inr ⟨pb, rfl, HQ8.out⟩⟩, HB8⟩
      ·
       have b26 : (op == 26) = false := bQ h26
       clear h26
       rw [if_neg (by simp [fi_num])] at hg
       replace hg := oB hg
       obtain ⟨⟨n2, ok2⟩, hRe, hg⟩ := hg
       have HRe := mK hRe
       clear hRe
       go_upto_region 28 with (first | (go_at_call 33; ((with_reducible refine (word_Parse.calls k str n1 _ _ HPa.out).mono ?_)); rintro e w5 ⟨rfl, hd⟩; have hb := hd.below; have HI5 := mK (kB HI2.out hb); have HZ5 := mK (kB HZ2.out hb); have HQ5 := mK (kB HPB.out hb); have HB5 := mK (bP HB2.out hb); clear hd hb) | ((with_reducible refine gate_store (t := 3) (p := 71) rfl ?_); refine store_event (t := 3) (p := 71) (v := ?vs1) (w1 := (w5.setCell ⟨w.heap.size + 1, 3, none⟩ (.int .i64 (wrap64 n1)))) ?hg ?ho ?hn ?hr ?_; (case ho => rfl); (case hg => rfl); (case hn => rfl); (case hr => (have hz5 := kF HI5.out 3; have hc5 : w5.cell? ⟨w.heap.size + 1, 3, none⟩ = some (.int .i64 c) := kC HI5.out 3; first | (go_simp; done) | (go_simp; rfl))); intro w6 hw; have HI6 := mK (show w6.heap[w.heap.size + 1]? = some (o5 op a b (wrap64 n1) i 23) from (by rw [hw]; exact kP HI5.out 3 _ rfl)); have HZ6 := mK (show w6.heap[w.heap.size]? = some (o5 0 0 0 0 0 23) from (by rw [hw]; exact kR HZ5.out (by show w.heap.size ≠ w.heap.size + 1; omega) _)); have HB6 := mK (show Below w.heap.size w w6 from (by rw [hw]; exact bS HB5.out (by omega))); have HQ6 := mK (show w6.heap[pb]? = some (.cells (ps.map (fun p => Value.pointer (some ⟨w.heap.size + 1, p, none⟩))).toArray 66 (0, 0)) from (by rw [hw]; exact kR HQ5.out (by exact HNE.out) _)); have hx6 := kW HB6.out HX.out; have hn6 : (binOp .neq 66 (.pointer (some ⟨w.heap.size + 1, 3, none⟩)) (.pointer (some ⟨w.heap.size + 1, 4, none⟩))).run Try.prog w6 = .ok (.bool true) w6 := Go.Proofs.Ytmajngcgejkghaa.C.pt_neo w6 Try.underlying66 (by kernel_rfl) (by decide) HI6.out; have he6 : (binOp .eql 66 (.pointer (some ⟨w.heap.size + 1, 3, none⟩)) (.pointer (some ⟨w.heap.size + 1, 2, none⟩))).run Try.prog w6 = .ok (.bool false) w6 := Go.Proofs.Ytmajngcgejkghaa.C.pt_eqo w6 Try.underlying66 (by kernel_rfl) (by decide) HI6.out; clear hw) | (go_at_call 34; ((with_reducible refine (instr_register.calls k str n2 _ _ HRe.out).mono ?_)); rintro e w7 ⟨rfl, hd⟩; have hb := hd.below; have HI7 := mK (kB HI6.out hb); have HZ7 := mK (kB HZ6.out hb); have HQ7 := mK (kB HQ6.out hb); have HB7 := mK (bP HB6.out hb); clear hd hb) | ((with_reducible refine gate_store (t := 3) (p := 94) rfl ?_); refine store_event (t := 3) (p := 94) (v := ?vs2) (w1 := (w7.setCell ⟨w.heap.size + 1, 3, none⟩ (.int .i64 n2))) ?hg ?ho ?hn ?hr ?_; (case ho => rfl); (case hg => rfl); (case hn => rfl); (case hr => (have hz7 := kF HI7.out 3; have hc7 : w7.cell? ⟨w.heap.size + 1, 3, none⟩ = some (.int .i64 (wrap64 n1)) := kC HI7.out 3; first | (go_simp; done) | (go_simp; rfl))); intro w8 hw; have HI8 := mK (show w8.heap[w.heap.size + 1]? = some (o5 op a b n2 i 23) from (by rw [hw]; exact kP HI7.out 3 _ rfl)); have HZ8 := mK (show w8.heap[w.heap.size]? = some (o5 0 0 0 0 0 23) from (by rw [hw]; exact kR HZ7.out (by show w.heap.size ≠ w.heap.size + 1; omega) _)); have HB8 := mK (show Below w.heap.size w w8 from (by rw [hw]; exact bS HB7.out (by omega))); have HQ8 := mK (show w8.heap[pb]? = some (.cells (ps.map (fun p => Value.pointer (some ⟨w.heap.size + 1, p, none⟩))).toArray 66 (0, 0)) from (by rw [hw]; exact kR HQ7.out (by exact HNE.out) _)); clear hw) | (rw [hn6]; simp only [Result.andThen]; rw [Oper.upon_value]) | (rw [he6]; simp only [Result.andThen]; rw [Oper.upon_value]))
       cases ok2 with
       | false =>
        rw [if_neg (by simp)] at hg
        injection hg with hg
        subst hg
        have hq2 := HQ'.out
        cases hq2
        have hzb := HZ8.out; obtain ⟨cz0, cz1, cz2, cz3, cz4, fz0, fz1, fz2, fz3, fz4⟩ := fi_cf HZ8.out
        go_wp2
        (try rw [Exit.noGoto_ret])
        refine bodyPost_ret (results_list (rs := [.cell 4 23, .tmp 5]) rfl (by simp) (.cell w.heap.size 23 #[.int .i64 0, .int .i64 0, .int .i64 0, .int .i64 0, .int .i64 0] (0, 0) _ rfl (fi_five HZ8.out _ _ _ _ _) Try.underlying23 rfl (by kernel_rfl) (.tmp .nil))) rfl ?_
        exact ⟨rfl, fi_fiveb HB8.out (Nat.le_refl _) _ _ _ _ _⟩
       | true =>
        rw [if_pos rfl] at hg
        have HG2 := mK hg
        clear hg
        go_wp2
        go_roundg (ps.length - j)
        case measure => have := HJ.out; omega
        case rel => exact ⟨j + 1, a, b, n2, i, (by first | rfl | exact congrArg _ hw1 | (rw [hw1]; rfl)), ⟨by have := HJ.out; have := HJ2.out; exact ⟨by omega, by omega⟩⟩, HG2, HI8, HZ8, ⟨.inr ⟨pb, rfl, HQ8.out⟩⟩, HB8⟩
     ·
      rw [if_pos (by simp [fi_num])] at hg
      go_upto_region 28 with (first | (go_at_call 33; ((with_reducible refine (word_Parse.calls k str n1 _ _ HPa.out).mono ?_)); rintro e w5 ⟨rfl, hd⟩; have hb := hd.below; have HI5 := mK (kB HI2.out hb); have HZ5 := mK (kB HZ2.out hb); have HQ5 := mK (kB HPB.out hb); have HB5 := mK (bP HB2.out hb); clear hd hb) | ((with_reducible refine gate_store (t := 3) (p := 71) rfl ?_); refine store_event (t := 3) (p := 71) (v := ?vs1) (w1 := (w5.setCell ⟨w.heap.size + 1, 4, none⟩ (.int .i64 (wrap64 n1)))) ?hg ?ho ?hn ?hr ?_; (case ho => rfl); (case hg => rfl); (case hn => rfl); (case hr => (have hz5 := kF HI5.out 4; have hc5 : w5.cell? ⟨w.heap.size + 1, 4, none⟩ = some (.int .i64 i) := kC HI5.out 4; first | (go_simp; done) | (go_simp; rfl))); intro w6 hw; have HI6 := mK (show w6.heap[w.heap.size + 1]? = some (o5 op a b c (wrap64 n1) 23) from (by rw [hw]; exact kP HI5.out 4 _ rfl)); have HZ6 := mK (show w6.heap[w.heap.size]? = some (o5 0 0 0 0 0 23) from (by rw [hw]; exact kR HZ5.out (by show w.heap.size ≠ w.heap.size + 1; omega) _)); have HB6 := mK (show Below w.heap.size w w6 from (by rw [hw]; exact bS HB5.out (by omega))); have HQ6 := mK (show w6.heap[pb]? = some (.cells (ps.map (fun p => Value.pointer (some ⟨w.heap.size + 1, p, none⟩))).toArray 66 (0, 0)) from (by rw [hw]; exact kR HQ5.out (by exact HNE.out) _)); have hx6 := kW HB6.out HX.out; have hn6 : (binOp .neq 66 (.pointer (some ⟨w.heap.size + 1, 4, none⟩)) (.pointer (some ⟨w.heap.size + 1, 4, none⟩))).run Try.prog w6 = .ok (.bool false) w6 := Go.Proofs.Ytmajngcgejkghaa.C.pt_nes w6 _ Try.underlying66 (by kernel_rfl); clear hw) | (rw [hn6]; simp only [Result.andThen]; rw [Oper.upon_value]))
      have hok : ok1 = ok1 := rfl; clear hok
      cases ok1 with
      | false =>
       rw [if_neg (by simp)] at hg
       injection hg with hg
       subst hg
       have hq2 := HQ'.out
       cases hq2
       have hzb := HZ6.out; obtain ⟨cz0, cz1, cz2, cz3, cz4, fz0, fz1, fz2, fz3, fz4⟩ := fi_cf HZ6.out
       go_wp2
       (try rw [Exit.noGoto_ret])
       refine bodyPost_ret (results_list (rs := [.cell 4 23, .tmp 5]) rfl (by simp) (.cell w.heap.size 23 #[.int .i64 0, .int .i64 0, .int .i64 0, .int .i64 0, .int .i64 0] (0, 0) _ rfl (fi_five HZ6.out _ _ _ _ _) Try.underlying23 rfl (by kernel_rfl) (.tmp .nil))) rfl ?_
       exact ⟨rfl, fi_fiveb HB6.out (Nat.le_refl _) _ _ _ _ _⟩
      | true =>
       rw [if_pos rfl] at hg
       have HG2 := mK hg
       clear hg
       go_wp2
       go_roundg (ps.length - j)
       case measure => have := HJ.out; omega
       case rel => exact ⟨j + 1, a, b, c, (wrap64 n1), (by first | rfl | exact congrArg _ hw1 | (rw [hw1]; rfl)), ⟨by have := HJ.out; have := HJ2.out; exact ⟨by omega, by omega⟩⟩, HG2, HI6, HZ6, ⟨.inr ⟨pb, rfl, HQ6.out⟩⟩, HB6⟩
    ·
     have hjl : j = ps.length := by have := HJ.out; omega
     have hg := HGo.out
     rw [List.drop_eq_nil_of_le (by omega)] at hg
     unfold instr_Fill.go at hg
     injection hg with hg
     subst hg
     have hq2 := HQ'.out
     replace hq2 := oB hq2
     obtain ⟨ec, hE, hq2⟩ := hq2
     simp only [Option.some.injEq, Prod.mk.injEq] at hq2
     obtain ⟨rfl, rfl, rfl, rfl, rfl, rfl⟩ := hq2
     have HE := mK hE
     have q1 : decide ((j : Int) < (ps.length : Int)) = false := decide_eq_false (by omega)
     have q2 : decide (j < ps.length) = false := decide_eq_false hj
     have fz0 := kF HZ2.out 0; have cz0 : wr.cell? ⟨w.heap.size, 0, none⟩ = some (.int .i64 0) := kC HZ2.out 0; have ci0 : wr.cell? ⟨w.heap.size + 1, 0, none⟩ = some (.int .i64 op) := kC HI2.out 0; have fz1 := kF HZ2.out 1; have cz1 : wr.cell? ⟨w.heap.size, 1, none⟩ = some (.int .i64 0) := kC HZ2.out 1; have ci1 : wr.cell? ⟨w.heap.size + 1, 1, none⟩ = some (.int .i64 a) := kC HI2.out 1; have fz2 := kF HZ2.out 2; have cz2 : wr.cell? ⟨w.heap.size, 2, none⟩ = some (.int .i64 0) := kC HZ2.out 2; have ci2 : wr.cell? ⟨w.heap.size + 1, 2, none⟩ = some (.int .i64 b) := kC HI2.out 2; have fz3 := kF HZ2.out 3; have cz3 : wr.cell? ⟨w.heap.size, 3, none⟩ = some (.int .i64 0) := kC HZ2.out 3; have ci3 : wr.cell? ⟨w.heap.size + 1, 3, none⟩ = some (.int .i64 c) := kC HI2.out 3; have fz4 := kF HZ2.out 4; have cz4 : wr.cell? ⟨w.heap.size, 4, none⟩ = some (.int .i64 0) := kC HZ2.out 4; have ci4 : wr.cell? ⟨w.heap.size + 1, 4, none⟩ = some (.int .i64 i) := kC HI2.out 4
     have hzb := HZ2.out; have hib := HI2.out
     clear hE hj
     go_wp2_with (first | (go_at_call 12; ((with_reducible refine (instr_Check.calls k _ _ _ _ _ ec _ HE.out).mono ?_)); rintro e w5 ⟨rfl, hb⟩; have HZ5 := mK (kB HZ2.out hb); have HB5 := mK (bP HB2.out hb)))
     go_region_held3 (fun w' => w'.cell? ⟨w.heap.size + 1, 0, none⟩ = some (.int .i64 op) ∧ w'.cell? ⟨w.heap.size + 1, 1, none⟩ = some (.int .i64 a) ∧ w'.cell? ⟨w.heap.size + 1, 2, none⟩ = some (.int .i64 b) ∧ w'.cell? ⟨w.heap.size + 1, 3, none⟩ = some (.int .i64 c) ∧ w'.cell? ⟨w.heap.size + 1, 4, none⟩ = some (.int .i64 i)) (first | with_reducible exact ⟨gi0, gi1, gi2, gi3, gi4⟩ | with_reducible exact fi_far5 HI5.out _ _ _ _ _ | exact ⟨ci0, ci1, ci2, ci3, ci4⟩) (first | (go_at_call 12; ((with_reducible refine (instr_Check.calls k _ _ _ _ _ ec _ HE.out).mono ?_)); rintro e w5 ⟨rfl, hb⟩; have hS := bP (below_drew (Below.refl wr.heap.size wr)) hb; have HZ5 := mK (kB HZ2.out hS); have HI5 := mK (kB HI2.out hS); have HB5 := mK (bP HB2.out hS); have hzb5 := HZ5.out; have gz0 := kF HZ5.out 0; have gc0 : w5.cell? ⟨w.heap.size, 0, none⟩ = some (.int .i64 0) := kC HZ5.out 0; have gi0 : w5.cell? ⟨w.heap.size + 1, 0, none⟩ = some (.int .i64 op) := kC HI5.out 0; have gz1 := kF HZ5.out 1; have gc1 : w5.cell? ⟨w.heap.size, 1, none⟩ = some (.int .i64 0) := kC HZ5.out 1; have gi1 : w5.cell? ⟨w.heap.size + 1, 1, none⟩ = some (.int .i64 a) := kC HI5.out 1; have gz2 := kF HZ5.out 2; have gc2 : w5.cell? ⟨w.heap.size, 2, none⟩ = some (.int .i64 0) := kC HZ5.out 2; have gi2 : w5.cell? ⟨w.heap.size + 1, 2, none⟩ = some (.int .i64 b) := kC HI5.out 2; have gz3 := kF HZ5.out 3; have gc3 : w5.cell? ⟨w.heap.size, 3, none⟩ = some (.int .i64 0) := kC HZ5.out 3; have gi3 : w5.cell? ⟨w.heap.size + 1, 3, none⟩ = some (.int .i64 c) := kC HI5.out 3; have gz4 := kF HZ5.out 4; have gc4 : w5.cell? ⟨w.heap.size, 4, none⟩ = some (.int .i64 0) := kC HZ5.out 4; have gi4 : w5.cell? ⟨w.heap.size + 1, 4, none⟩ = some (.int .i64 i) := kC HI5.out 4; clear hb hS))
     go_wp2
     (try rw [Exit.noGoto_ret])
     refine bodyPost_ret (results_list (rs := [.cell 4 23, .tmp 5]) rfl (by simp) (.cell w.heap.size 23 #[.int .i64 op, .int .i64 a, .int .i64 b, .int .i64 c, .int .i64 i] (0, 0) _ rfl (fi_five HZ5.out _ _ _ _ _) Try.underlying23 rfl (by kernel_rfl) (.tmp .nil))) rfl ?_
     exact ⟨rfl, fi_fiveb HB5.out (Nat.le_refl _) _ _ _ _ _⟩
    -- END
  ·
   rw [if_neg hl] at HQ
   cases HQ
   have hlb : ((l1.length : Int) != (ps.length : Int)) = true := bne_iff_ne.mpr (fun e => hl (by omega))
   have hzb := HZ.out; obtain ⟨cz0, cz1, cz2, cz3, cz4, fz0, fz1, fz2, fz3, fz4⟩ := cf5 HZ.out
   clear hl
   go_wp2
   refine bodyPost_ret (results_list (rs := [.cell 4 23, .tmp 5]) rfl (by simp) (.cell w.heap.size 23 #[.int .i64 0, .int .i64 0, .int .i64 0, .int .i64 0, .int .i64 0] (0, 0) _ rfl (fi_five HZ.out _ _ _ _ _) Try.underlying23 rfl (by kernel_rfl) (.tmp .nil))) rfl ?_
   exact ⟨rfl, fi_fiveb HB.out (Nat.le_refl _) _ _ _ _ _⟩

end Go.Proofs.Ytmajngcgejkghaa.P

namespace Go.Proofs.Ytmajngcgejkghaa.P
open Go.RowKit Go.Proofs.YtmajngcgejkghaaW.PrintWords Go.Proofs.YtmajngcgejkghaaW.PrintLast Go.Proofs.YtmajngcgejkghaaW.PrintMore
attribute [local go_sem] max2_int min2_int max_two min_two max_three min_three max_four min_four   -- for this text's walks alone
set_option linter.unusedVariables false
set_option linter.unusedSimpArgs false

/-! ### pascalineref01_Parse: function 42 -/
mutual
def pascalineref01_Parse.j0 : Nat → ByteArray → Bool → Option (Int × Bool)
 | 0, _, _ => none
 | k + 1, x0, x13 => if x13 = true then (some (0, false)) else (pascalineref01_Parse.l0 k x0 0 0)
def pascalineref01_Parse.l0 : Nat → ByteArray → Int → Int → Option (Int × Bool)
 | 0, _, _, _ => none
 | k + 1, x0, x4, x5 => if x5 < (x0.size : Int) then (if x5 = 0 then (if 0 < (x0.size : Int) then (pascalineref01_Parse.j2 k x0 x4 x5 ((bt x0 0) == 45)) else (none)) else (pascalineref01_Parse.j2 k x0 x4 x5 false)) else (if 0 < (x0.size : Int) then (if (bt x0 0) = 45 then (if (wrap64 (-x4)) < (-2147483648) then (some (0, false)) else (if (wrap64 (-x4)) > 2147483647 then (some (0, false)) else ((pascalineref01_Text.f (wrap64 (-x4))).bind fun t308 => (if t308.toList = x0.toList then (some (wrap32 (wrap64 (-x4)), true)) else (some (0, false)))))) else (if x4 < (-2147483648) then (some (0, false)) else (if x4 > 2147483647 then (some (0, false)) else ((pascalineref01_Text.f x4).bind fun t309 => (if t309.toList = x0.toList then (some (wrap32 (x4), true)) else (some (0, false))))))) else (none))
def pascalineref01_Parse.j2 : Nat → ByteArray → Int → Int → Bool → Option (Int × Bool)
 | 0, _, _, _, _ => none
 | k + 1, x0, x4, x5, x26 => if x26 = true then (pascalineref01_Parse.l0 k x0 x4 (wrap64 (x5 + 1))) else (if 0 ≤ x5 then (if x5 < (x0.size : Int) then (if (bt x0 x5) < 48 then (some (0, false)) else (if (bt x0 x5) > 57 then (some (0, false)) else (pascalineref01_Parse.l0 k x0 (wrap64 ((wrap64 (x4 * 10)) + (((bt x0 x5) - 48) % 256))) (wrap64 (x5 + 1))))) else (none)) else (none))
end
def pascalineref01_Parse.f (k : Nat) (a0 : ByteArray) : Option (Int × Bool) := if (a0.size : Int) < 1 then (pascalineref01_Parse.j0 k a0 true) else (pascalineref01_Parse.j0 k a0 (decide ((a0.size : Int) > 11)))
theorem pascalineref01_Parse.mono_l : ∀ k, (∀ y0 y1, LeO (pascalineref01_Parse.j0 k y0 y1) (pascalineref01_Parse.j0 (k + 1) y0 y1)) ∧ (∀ y0 y1 y2, LeO (pascalineref01_Parse.l0 k y0 y1 y2) (pascalineref01_Parse.l0 (k + 1) y0 y1 y2)) ∧ (∀ y0 y1 y2 y3, LeO (pascalineref01_Parse.j2 k y0 y1 y2 y3) (pascalineref01_Parse.j2 (k + 1) y0 y1 y2 y3))
 | 0 => ⟨fun _ _ r h => by simp [pascalineref01_Parse.j0] at h, fun _ _ _ r h => by simp [pascalineref01_Parse.l0] at h, fun _ _ _ _ r h => by simp [pascalineref01_Parse.j2] at h⟩
 | k + 1 => by
  obtain ⟨ih0, ih1, ih2⟩ := pascalineref01_Parse.mono_l k
  refine ⟨?_, ?_, ?_⟩
  ·
   intro y0 y1
   unfold pascalineref01_Parse.j0
   repeat' first
   | (with_reducible exact ih0 _ _)
   | (with_reducible exact ih1 _ _ _)
   | (with_reducible exact ih2 _ _ _ _)
   | (with_reducible exact LeO.refl _)
   | (with_reducible exact LeO.none _)
   | (with_reducible refine LeO.ite ?_ ?_)
   | (with_reducible refine LeO.bind ?_ (fun _ => ?_))
   | exact LeO.none _
   | refine LeO.ite ?_ ?_
   | refine LeO.bind ?_ (fun _ => ?_)
  ·
   intro y0 y1 y2
   unfold pascalineref01_Parse.l0
   repeat' first
   | (with_reducible exact ih0 _ _)
   | (with_reducible exact ih1 _ _ _)
   | (with_reducible exact ih2 _ _ _ _)
   | (with_reducible exact LeO.refl _)
   | (with_reducible exact LeO.none _)
   | (with_reducible refine LeO.ite ?_ ?_)
   | (with_reducible refine LeO.bind ?_ (fun _ => ?_))
   | exact LeO.none _
   | refine LeO.ite ?_ ?_
   | refine LeO.bind ?_ (fun _ => ?_)
  ·
   intro y0 y1 y2 y3
   unfold pascalineref01_Parse.j2
   repeat' first
   | (with_reducible exact ih0 _ _)
   | (with_reducible exact ih1 _ _ _)
   | (with_reducible exact ih2 _ _ _ _)
   | (with_reducible exact LeO.refl _)
   | (with_reducible exact LeO.none _)
   | (with_reducible refine LeO.ite ?_ ?_)
   | (with_reducible refine LeO.bind ?_ (fun _ => ?_))
   | exact LeO.none _
   | refine LeO.ite ?_ ?_
   | refine LeO.bind ?_ (fun _ => ?_)
theorem pascalineref01_Parse.mono : ∀ a0 k, LeO (pascalineref01_Parse.f k a0) (pascalineref01_Parse.f (k + 1) a0) := by
 intro a0 k
 obtain ⟨ih0, ih1, ih2⟩ := pascalineref01_Parse.mono_l k
 unfold pascalineref01_Parse.f
 repeat' first
  | (with_reducible exact ih0 _ _)
  | (with_reducible exact ih1 _ _ _)
  | (with_reducible exact ih2 _ _ _ _)
  | (with_reducible exact LeO.refl _)
  | (with_reducible exact LeO.none _)
  | (with_reducible refine LeO.ite ?_ ?_)
  | (with_reducible refine LeO.bind ?_ (fun _ => ?_))
  | exact LeO.none _
  | refine LeO.ite ?_ ?_
  | refine LeO.bind ?_ (fun _ => ?_)
set_option maxHeartbeats 8000000 in
set_option maxRecDepth 100000 in
theorem pascalineref01_Parse.calls (k : Nat) (a0 : ByteArray) (r1 : Int) (r2 : Bool) (w : World) (h : pascalineref01_Parse.f k a0 = some (r1, r2)) :
 Calls Try.prog 42 #[.string a0] w fun e w' => e = .returned (.tuple #[.int .i32 r1, .bool r2]) ∧ Below w.heap.size w w' := by
 have HB := mK (Below.refl w.heap.size w)
 have H : (if (a0.size : Int) < 1 then (pascalineref01_Parse.j0 k a0 true) else (pascalineref01_Parse.j0 k a0 (decide ((a0.size : Int) > 11)))) = some (r1, r2) := h
 clear h
 have HC2 := mK H
 clear H
 go_enter Try.func42, Try.ntmps42
 go_upto_region 1 with (fail)
 go_cut [13] (fun v13 wc => ∃ (kq : Nat) (x13_1 : Bool), v13 = .bool x13_1 ∧ Aside0 (pascalineref01_Parse.j0 kq a0 x13_1 = some (r1, r2)) ∧ Aside0 (kq ≤ k) ∧ Aside0 (Below w.heap.size w wc))
 case first =>
  have H := HC2.out
  clear HC2
  by_cases c3 : (a0.size : Int) < 1
  ·
   rw [if_pos c3] at H
   have c3b0 : decide ((a0.size : Int) < 1) = true := decide_eq_true c3
   have c3b1 : decide (a0.size < 1) = true := decide_eq_true (by omega)
   clear c3
   (first | rw [c3b0] | (simp only [i64_w, i32_w]; rw [c3b0]) | skip)
   have H' := mK H
   clear H
   go_wp2
   go_meet
   case rel => exact ⟨_, (true), (by first | rfl | (simp; done) | (simp [*]; done)), H', ⟨by first | omega | exact Nat.le_refl _⟩, ⟨by repeat (first | (with_reducible first | exact HB.out | apply bA | apply bN | apply bD) | exact HB.out)⟩⟩
  ·
   rw [if_neg c3] at H
   have c3b0 : decide ((a0.size : Int) < 1) = false := decide_eq_false c3
   have c3b1 : decide (a0.size < 1) = false := decide_eq_false (by omega)
   clear c3
   (first | rw [c3b0] | (simp only [i64_w, i32_w]; rw [c3b0]) | skip)
   have H' := mK H
   clear H
   go_wp2
   go_meet
   case rel => exact ⟨_, (decide ((a0.size : Int) > 11)), (by first | rfl | (simp; done) | (simp [*]; done)), H', ⟨by first | omega | exact Nat.le_refl _⟩, ⟨by repeat (first | (with_reducible first | exact HB.out | apply bA | apply bN | apply bD) | exact HB.out)⟩⟩
 case rest =>
  clear HC2
  obtain ⟨kq, x13_1, rfl, HA, HJ1, HB⟩ := hcut
  cases kq with
  | zero => exact absurd HA.out (by simp [pascalineref01_Parse.j0])
  | succ kj1 =>
   have H := HA.out
   clear HA
   simp only [pascalineref01_Parse.j0] at H
   by_cases c4 : x13_1 = true
   ·
    subst c4
    have H1 : (some (0, false)) = some (r1, r2) := by rw [if_pos rfl] at H; exact H
    clear H
    have H := H1
    clear H1
    simp only [Option.some.injEq, Prod.mk.injEq] at H
    obtain ⟨rfl, rfl⟩ := H
    go_wp2
    go_ret2
    exact ⟨by first | rfl | (simp [errW_none, errW_some] <;> rfl) | (simp [*, errW_none, errW_some] <;> rfl), by repeat (first | (with_reducible first | exact HB.out | apply bA | apply bN | apply bD) | exact HB.out)⟩
   ·
    replace c4 := Bool.eq_false_iff.mpr c4
    subst c4
    have H1 : (pascalineref01_Parse.l0 kj1 a0 0 0) = some (r1, r2) := by rw [if_neg (show ¬ (false = true) by decide)] at H; exact H
    clear H
    have H := H1
    clear H1
    have H' := mK H
    clear H
    go_wp2
    go_loopg [4, 5] kj1 (fun kq v4 v5 w' => ∃ (x4_2 : Int) (x5_2 : Int), v4 = .int .i64 x4_2 ∧ v5 = .int .i64 x5_2 ∧ Aside0 (pascalineref01_Parse.l0 kq a0 x4_2 x5_2 = some (r1, r2)) ∧ Aside0 (kq ≤ kj1) ∧ Aside0 (Below w.heap.size w w'))
    case atStart => exact ⟨(0), (0), (by first | rfl | (simp; done) | (simp [*]; done)), (by first | rfl | (simp; done) | (simp [*]; done)), H', ⟨Nat.le_refl _⟩, ⟨by repeat (first | (with_reducible first | exact HB.out | apply bA | apply bN | apply bD) | exact HB.out)⟩⟩
    case round =>
     clear H'
     (try clear c4)
     obtain ⟨x4_2, x5_2, rfl, rfl, HA, HK2, HB⟩ := hrel
     cases gk with
     | zero => exact absurd HA.out (by simp [pascalineref01_Parse.l0])
     | succ k2 =>
      have H := HA.out
      clear HA
      simp only [pascalineref01_Parse.l0] at H
      by_cases c5 : x5_2 < (a0.size : Int)
      ·
       rw [if_pos c5] at H
       have c5b0 : decide (x5_2 < (a0.size : Int)) = true := decide_eq_true c5
       clear c5
       have HC6 := mK H
       clear H
       go_upto_region 7 with (fail)
       go_cut [26] (fun v26 wc => ∃ (kq : Nat) (x26_5 : Bool), v26 = .bool x26_5 ∧ Aside0 (pascalineref01_Parse.j2 kq a0 x4_2 x5_2 x26_5 = some (r1, r2)) ∧ Aside0 (kq ≤ k2) ∧ Aside0 (Below w.heap.size w wc))
       case first =>
        have H := HC6.out
        clear HC6
        by_cases c7 : x5_2 = 0
        ·
         rw [if_pos c7] at H
         have c7b0 : (x5_2 == 0) = true := beq_iff_eq.mpr c7
         have c7b1 : (x5_2 != 0) = false := bR c7
         clear c7
         (first | rw [c7b0] | (simp only [i64_w, i32_w]; rw [c7b0]) | skip)
         by_cases c8 : 0 < (a0.size : Int)
         ·
          rw [if_pos c8] at H
          have c8b0 : decide (0 < (a0.size : Int)) = true := decide_eq_true c8
          have c8b1 : decide (0 < a0.size) = true := decide_eq_true (by omega)
          clear c8
          have H' := mK H
          clear H
          have p9 : 0 ≤ (0 : Int) := (by omega)
          have q9 : 0 < a0.size := (by have : (0 : Int) < (a0.size : Int) := of_decide_eq_true (by first | (with_reducible assumption) | assumption); omega)
          have hx9 : ∀ h : 0 < a0.size, ((a0[0]'h).toNat : Int) = bt a0 0 := bt_at a0 0
          clear p9
          have qi9 : (0 < (a0.size : Int)) = True := eq_true (of_decide_eq_true (by first | (with_reducible assumption) | assumption))
          replace q9 := eq_true q9
          go_wp2
          go_meet
          case rel => exact ⟨_, (((bt a0 0) == 45)), (by first | rfl | (simp; done) | (simp [*]; done)), H', ⟨by have := HJ1.out; have := HK2.out; first | omega | exact Nat.le_refl _⟩, ⟨by repeat (first | (with_reducible first | exact HB.out | apply bA | apply bN | apply bD) | exact HB.out)⟩⟩
         ·
          rw [if_neg c8] at H
          exact absurd H (by simp)
        ·
         rw [if_neg c7] at H
         have c7b0 : (x5_2 == 0) = false := bQ c7
         have c7b1 : (x5_2 != 0) = true := bne_iff_ne.mpr c7
         (first | rw [c7b0] | (simp only [i64_w, i32_w]; rw [c7b0]) | skip)
         have H' := mK H
         clear H
         go_wp2
         go_meet
         case rel => exact ⟨_, (false), (by first | rfl | (simp; done) | (simp [*]; done)), H', ⟨by have := HJ1.out; have := HK2.out; first | omega | exact Nat.le_refl _⟩, ⟨by repeat (first | (with_reducible first | exact HB.out | apply bA | apply bN | apply bD) | exact HB.out)⟩⟩
       case rest =>
        clear HC6
        (try clear c4); (try clear c5); (try clear c5b0)
        obtain ⟨kq, x26_5, rfl, HA, HJ5, HB⟩ := hcut
        cases kq with
        | zero => exact absurd HA.out (by simp [pascalineref01_Parse.j2])
        | succ kj5 =>
         have H := HA.out
         clear HA
         simp only [pascalineref01_Parse.j2] at H
         by_cases c10 : x26_5 = true
         ·
          subst c10
          have H1 : (pascalineref01_Parse.l0 kj5 a0 x4_2 (wrap64 (x5_2 + 1))) = some (r1, r2) := by rw [if_pos rfl] at H; exact H
          clear H
          have H := H1
          clear H1
          have H' := mK H
          clear H
          go_wp2
          go_roundg kj5
          case measure => have := HJ1.out; have := HK2.out; have := HJ5.out; omega
          case rel => exact ⟨(x4_2), (wrap64 (x5_2 + 1)), (by first | rfl | (simp; done) | (simp [*]; done)), (by first | rfl | (simp; done) | (simp [*]; done)), H', ⟨by have := HJ1.out; have := HK2.out; have := HJ5.out; omega⟩, ⟨by repeat (first | (with_reducible first | exact HB.out | apply bA | apply bN | apply bD) | exact HB.out)⟩⟩
         ·
          replace c10 := Bool.eq_false_iff.mpr c10
          subst c10
          have H1 : (if 0 ≤ x5_2 then (if x5_2 < (a0.size : Int) then (if (bt a0 x5_2) < 48 then (some (0, false)) else (if (bt a0 x5_2) > 57 then (some (0, false)) else (pascalineref01_Parse.l0 kj5 a0 (wrap64 ((wrap64 (x4_2 * 10)) + (((bt a0 x5_2) - 48) % 256))) (wrap64 (x5_2 + 1))))) else (none)) else (none)) = some (r1, r2) := by rw [if_neg (show ¬ (false = true) by decide)] at H; exact H
          clear H
          have H := H1
          clear H1
          by_cases c11 : 0 ≤ x5_2
          ·
           rw [if_pos c11] at H
           have c11b0 : decide (0 ≤ x5_2) = true := decide_eq_true c11
           clear c11
           by_cases c12 : x5_2 < (a0.size : Int)
           ·
            rw [if_pos c12] at H
            have c12b0 : decide (x5_2 < (a0.size : Int)) = true := decide_eq_true c12
            clear c12
            by_cases c14 : (bt a0 x5_2) < 48
            ·
             rw [if_pos c14] at H
             have c14b0 : decide ((bt a0 x5_2) < 48) = true := decide_eq_true c14
             clear c14
             simp only [Option.some.injEq, Prod.mk.injEq] at H
             obtain ⟨rfl, rfl⟩ := H
             have p13 : 0 ≤ (x5_2 : Int) := of_decide_eq_true (by first | (with_reducible assumption) | assumption)
             have q13 : x5_2 < (a0.size : Int) := of_decide_eq_true (by first | (with_reducible assumption) | assumption)
             have hx13 := bt_at a0 x5_2
             replace p13 := eq_true p13
             replace q13 := eq_true q13
             go_wp2
             go_ret2
             exact ⟨by first | rfl | (simp [errW_none, errW_some] <;> rfl) | (simp [*, errW_none, errW_some] <;> rfl), by repeat (first | (with_reducible first | exact HB.out | apply bA | apply bN | apply bD) | exact HB.out)⟩
            ·
             rw [if_neg c14] at H
             have c14b0 : decide ((bt a0 x5_2) < 48) = false := decide_eq_false c14
             clear c14
             by_cases c16 : (bt a0 x5_2) > 57
             ·
              rw [if_pos c16] at H
              have c16b0 : decide (57 < (bt a0 x5_2)) = true := decide_eq_true c16
              clear c16
              simp only [Option.some.injEq, Prod.mk.injEq] at H
              obtain ⟨rfl, rfl⟩ := H
              have p13 : 0 ≤ (x5_2 : Int) := of_decide_eq_true (by first | (with_reducible assumption) | assumption)
              have q13 : x5_2 < (a0.size : Int) := of_decide_eq_true (by first | (with_reducible assumption) | assumption)
              have hx13 := bt_at a0 x5_2
              replace p13 := eq_true p13
              replace q13 := eq_true q13
              have p15 : 0 ≤ (x5_2 : Int) := of_decide_eq_true (by first | (with_reducible assumption) | assumption)
              have q15 : x5_2 < (a0.size : Int) := of_decide_eq_true (by first | (with_reducible assumption) | assumption)
              have hx15 := bt_at a0 x5_2
              replace p15 := eq_true p15
              replace q15 := eq_true q15
              go_wp2
              go_ret2
              exact ⟨by first | rfl | (simp [errW_none, errW_some] <;> rfl) | (simp [*, errW_none, errW_some] <;> rfl), by repeat (first | (with_reducible first | exact HB.out | apply bA | apply bN | apply bD) | exact HB.out)⟩
             ·
              rw [if_neg c16] at H
              have c16b0 : decide (57 < (bt a0 x5_2)) = false := decide_eq_false c16
              clear c16
              have H' := mK H
              clear H
              have p13 : 0 ≤ (x5_2 : Int) := of_decide_eq_true (by first | (with_reducible assumption) | assumption)
              have q13 : x5_2 < (a0.size : Int) := of_decide_eq_true (by first | (with_reducible assumption) | assumption)
              have hx13 := bt_at a0 x5_2
              replace p13 := eq_true p13
              replace q13 := eq_true q13
              have p15 : 0 ≤ (x5_2 : Int) := of_decide_eq_true (by first | (with_reducible assumption) | assumption)
              have q15 : x5_2 < (a0.size : Int) := of_decide_eq_true (by first | (with_reducible assumption) | assumption)
              have hx15 := bt_at a0 x5_2
              replace p15 := eq_true p15
              replace q15 := eq_true q15
              have p17 : 0 ≤ (x5_2 : Int) := of_decide_eq_true (by first | (with_reducible assumption) | assumption)
              have q17 : x5_2 < (a0.size : Int) := of_decide_eq_true (by first | (with_reducible assumption) | assumption)
              have hx17 := bt_at a0 x5_2
              replace p17 := eq_true p17
              replace q17 := eq_true q17
              go_wp2
              go_roundg kj5
              case measure => have := HJ1.out; have := HK2.out; have := HJ5.out; omega
              case rel => exact ⟨(wrap64 ((wrap64 (x4_2 * 10)) + (((bt a0 x5_2) - 48) % 256))), (wrap64 (x5_2 + 1)), (by first | rfl | (simp; done) | (simp [*]; done)), (by first | rfl | (simp; done) | (simp [*]; done)), H', ⟨by have := HJ1.out; have := HK2.out; have := HJ5.out; omega⟩, ⟨by repeat (first | (with_reducible first | exact HB.out | apply bA | apply bN | apply bD) | exact HB.out)⟩⟩
           ·
            rw [if_neg c12] at H
            exact absurd H (by simp)
          ·
           rw [if_neg c11] at H
           exact absurd H (by simp)
      ·
       rw [if_neg c5] at H
       have c5b0 : decide (x5_2 < (a0.size : Int)) = false := decide_eq_false c5
       clear c5
       by_cases c18 : 0 < (a0.size : Int)
       ·
        rw [if_pos c18] at H
        have c18b0 : decide (0 < (a0.size : Int)) = true := decide_eq_true c18
        have c18b1 : decide (0 < a0.size) = true := decide_eq_true (by omega)
        clear c18
        by_cases c20 : (bt a0 0) = 45
        ·
         rw [if_pos c20] at H
         have c20b0 : ((bt a0 0) == 45) = true := beq_iff_eq.mpr c20
         have c20b1 : ((bt a0 0) != 45) = false := bR c20
         clear c20
         by_cases c21 : (wrap64 (-x4_2)) < (-2147483648)
         ·
          rw [if_pos c21] at H
          have c21b0 : decide ((wrap64 (-x4_2)) < (-2147483648)) = true := decide_eq_true c21
          clear c21
          simp only [Option.some.injEq, Prod.mk.injEq] at H
          obtain ⟨rfl, rfl⟩ := H
          have p19 : 0 ≤ (0 : Int) := (by omega)
          have q19 : 0 < a0.size := (by have : (0 : Int) < (a0.size : Int) := of_decide_eq_true (by first | (with_reducible assumption) | assumption); omega)
          have hx19 : ∀ h : 0 < a0.size, ((a0[0]'h).toNat : Int) = bt a0 0 := bt_at a0 0
          clear p19
          have qi19 : (0 < (a0.size : Int)) = True := eq_true (of_decide_eq_true (by first | (with_reducible assumption) | assumption))
          replace q19 := eq_true q19
          go_wp2
          go_ret2
          exact ⟨by first | rfl | (simp [errW_none, errW_some] <;> rfl) | (simp [*, errW_none, errW_some] <;> rfl), by repeat (first | (with_reducible first | exact HB.out | apply bA | apply bN | apply bD) | exact HB.out)⟩
         ·
          rw [if_neg c21] at H
          have c21b0 : decide ((wrap64 (-x4_2)) < (-2147483648)) = false := decide_eq_false c21
          clear c21
          by_cases c22 : (wrap64 (-x4_2)) > 2147483647
          ·
           rw [if_pos c22] at H
           have c22b0 : decide (2147483647 < (wrap64 (-x4_2))) = true := decide_eq_true c22
           clear c22
           simp only [Option.some.injEq, Prod.mk.injEq] at H
           obtain ⟨rfl, rfl⟩ := H
           have p19 : 0 ≤ (0 : Int) := (by omega)
           have q19 : 0 < a0.size := (by have : (0 : Int) < (a0.size : Int) := of_decide_eq_true (by first | (with_reducible assumption) | assumption); omega)
           have hx19 : ∀ h : 0 < a0.size, ((a0[0]'h).toNat : Int) = bt a0 0 := bt_at a0 0
           clear p19
           have qi19 : (0 < (a0.size : Int)) = True := eq_true (of_decide_eq_true (by first | (with_reducible assumption) | assumption))
           replace q19 := eq_true q19
           go_wp2
           go_ret2
           exact ⟨by first | rfl | (simp [errW_none, errW_some] <;> rfl) | (simp [*, errW_none, errW_some] <;> rfl), by repeat (first | (with_reducible first | exact HB.out | apply bA | apply bN | apply bD) | exact HB.out)⟩
          ·
           rw [if_neg c22] at H
           have c22b0 : decide (2147483647 < (wrap64 (-x4_2))) = false := decide_eq_false c22
           clear c22
           replace H := oB H
           obtain ⟨t308, A230, H⟩ := H
           replace H : (if t308.toList = a0.toList then (some (wrap32 (wrap64 (-x4_2)), true)) else (some (0, false))) = some (r1, r2) := H
           have A23 := mK A230
           clear A230
           by_cases c24 : t308.toList = a0.toList
           ·
            rw [if_pos c24] at H
            have c24b0 : (t308.toList == a0.toList) = true := beq_iff_eq.mpr c24
            have c24b1 : (t308.toList != a0.toList) = false := bR c24
            clear c24
            simp only [Option.some.injEq, Prod.mk.injEq] at H
            obtain ⟨rfl, rfl⟩ := H
            have p19 : 0 ≤ (0 : Int) := (by omega)
            have q19 : 0 < a0.size := (by have : (0 : Int) < (a0.size : Int) := of_decide_eq_true (by first | (with_reducible assumption) | assumption); omega)
            have hx19 : ∀ h : 0 < a0.size, ((a0[0]'h).toNat : Int) = bt a0 0 := bt_at a0 0
            clear p19
            have qi19 : (0 < (a0.size : Int)) = True := eq_true (of_decide_eq_true (by first | (with_reducible assumption) | assumption))
            replace q19 := eq_true q19
            go_wp2_with (first | (go_at_call 36; (with_reducible refine (pascalineref01_Text.calls (wrap64 (-x4_2)) t308 _ A23.out).mono ?_); rintro e w25 ⟨rfl, hb⟩; have n0_ := mK (bP (by repeat (first | (with_reducible first | exact HB.out | apply bA | apply bN | apply bD) | exact HB.out)) hb); clear HB; have HB := n0_; clear n0_; (try clear hb)))
            go_ret2
            exact ⟨by first | rfl | (simp [errW_none, errW_some] <;> rfl) | (simp [*, errW_none, errW_some] <;> rfl), by repeat (first | (with_reducible first | exact HB.out | apply bA | apply bN | apply bD) | exact HB.out)⟩
           ·
            rw [if_neg c24] at H
            have c24b0 : (t308.toList == a0.toList) = false := bQ c24
            have c24b1 : (t308.toList != a0.toList) = true := bne_iff_ne.mpr c24
            simp only [Option.some.injEq, Prod.mk.injEq] at H
            obtain ⟨rfl, rfl⟩ := H
            have p19 : 0 ≤ (0 : Int) := (by omega)
            have q19 : 0 < a0.size := (by have : (0 : Int) < (a0.size : Int) := of_decide_eq_true (by first | (with_reducible assumption) | assumption); omega)
            have hx19 : ∀ h : 0 < a0.size, ((a0[0]'h).toNat : Int) = bt a0 0 := bt_at a0 0
            clear p19
            have qi19 : (0 < (a0.size : Int)) = True := eq_true (of_decide_eq_true (by first | (with_reducible assumption) | assumption))
            replace q19 := eq_true q19
            go_wp2_with (first | (go_at_call 36; (with_reducible refine (pascalineref01_Text.calls (wrap64 (-x4_2)) t308 _ A23.out).mono ?_); rintro e w26 ⟨rfl, hb⟩; have n0_ := mK (bP (by repeat (first | (with_reducible first | exact HB.out | apply bA | apply bN | apply bD) | exact HB.out)) hb); clear HB; have HB := n0_; clear n0_; (try clear hb)))
            go_ret2
            exact ⟨by first | rfl | (simp [errW_none, errW_some] <;> rfl) | (simp [*, errW_none, errW_some] <;> rfl), by repeat (first | (with_reducible first | exact HB.out | apply bA | apply bN | apply bD) | exact HB.out)⟩
        ·
         rw [if_neg c20] at H
         have c20b0 : ((bt a0 0) == 45) = false := bQ c20
         have c20b1 : ((bt a0 0) != 45) = true := bne_iff_ne.mpr c20
         by_cases c27 : x4_2 < (-2147483648)
         ·
          rw [if_pos c27] at H
          have c27b0 : decide (x4_2 < (-2147483648)) = true := decide_eq_true c27
          clear c27
          simp only [Option.some.injEq, Prod.mk.injEq] at H
          obtain ⟨rfl, rfl⟩ := H
          have p19 : 0 ≤ (0 : Int) := (by omega)
          have q19 : 0 < a0.size := (by have : (0 : Int) < (a0.size : Int) := of_decide_eq_true (by first | (with_reducible assumption) | assumption); omega)
          have hx19 : ∀ h : 0 < a0.size, ((a0[0]'h).toNat : Int) = bt a0 0 := bt_at a0 0
          clear p19
          have qi19 : (0 < (a0.size : Int)) = True := eq_true (of_decide_eq_true (by first | (with_reducible assumption) | assumption))
          replace q19 := eq_true q19
          go_wp2
          go_ret2
          exact ⟨by first | rfl | (simp [errW_none, errW_some] <;> rfl) | (simp [*, errW_none, errW_some] <;> rfl), by repeat (first | (with_reducible first | exact HB.out | apply bA | apply bN | apply bD) | exact HB.out)⟩
         ·
          rw [if_neg c27] at H
          have c27b0 : decide (x4_2 < (-2147483648)) = false := decide_eq_false c27
          clear c27
          by_cases c28 : x4_2 > 2147483647
          ·
           rw [if_pos c28] at H
           have c28b0 : decide (2147483647 < x4_2) = true := decide_eq_true c28
           clear c28
           simp only [Option.some.injEq, Prod.mk.injEq] at H
           obtain ⟨rfl, rfl⟩ := H
           have p19 : 0 ≤ (0 : Int) := (by omega)
           have q19 : 0 < a0.size := (by have : (0 : Int) < (a0.size : Int) := of_decide_eq_true (by first | (with_reducible assumption) | assumption); omega)
           have hx19 : ∀ h : 0 < a0.size, ((a0[0]'h).toNat : Int) = bt a0 0 := bt_at a0 0
           clear p19
           have qi19 : (0 < (a0.size : Int)) = True := eq_true (of_decide_eq_true (by first | (with_reducible assumption) | assumption))
           replace q19 := eq_true q19
           go_wp2
           go_ret2
           exact ⟨by first | rfl | (simp [errW_none, errW_some] <;> rfl) | (simp [*, errW_none, errW_some] <;> rfl), by repeat (first | (with_reducible first | exact HB.out | apply bA | apply bN | apply bD) | exact HB.out)⟩
          ·
           rw [if_neg c28] at H
           have c28b0 : decide (2147483647 < x4_2) = false := decide_eq_false c28
           clear c28
           replace H := oB H
           obtain ⟨t309, A290, H⟩ := H
           replace H : (if t309.toList = a0.toList then (some (wrap32 (x4_2), true)) else (some (0, false))) = some (r1, r2) := H
           have A29 := mK A290
           clear A290
           by_cases c30 : t309.toList = a0.toList
           ·
            rw [if_pos c30] at H
            have c30b0 : (t309.toList == a0.toList) = true := beq_iff_eq.mpr c30
            have c30b1 : (t309.toList != a0.toList) = false := bR c30
            clear c30
            simp only [Option.some.injEq, Prod.mk.injEq] at H
            obtain ⟨rfl, rfl⟩ := H
            have p19 : 0 ≤ (0 : Int) := (by omega)
            have q19 : 0 < a0.size := (by have : (0 : Int) < (a0.size : Int) := of_decide_eq_true (by first | (with_reducible assumption) | assumption); omega)
            have hx19 : ∀ h : 0 < a0.size, ((a0[0]'h).toNat : Int) = bt a0 0 := bt_at a0 0
            clear p19
            have qi19 : (0 < (a0.size : Int)) = True := eq_true (of_decide_eq_true (by first | (with_reducible assumption) | assumption))
            replace q19 := eq_true q19
            go_wp2_with (first | (go_at_call 36; (with_reducible refine (pascalineref01_Text.calls x4_2 t309 _ A29.out).mono ?_); rintro e w31 ⟨rfl, hb⟩; have n0_ := mK (bP (by repeat (first | (with_reducible first | exact HB.out | apply bA | apply bN | apply bD) | exact HB.out)) hb); clear HB; have HB := n0_; clear n0_; (try clear hb)))
            go_ret2
            exact ⟨by first | rfl | (simp [errW_none, errW_some] <;> rfl) | (simp [*, errW_none, errW_some] <;> rfl), by repeat (first | (with_reducible first | exact HB.out | apply bA | apply bN | apply bD) | exact HB.out)⟩
           ·
            rw [if_neg c30] at H
            have c30b0 : (t309.toList == a0.toList) = false := bQ c30
            have c30b1 : (t309.toList != a0.toList) = true := bne_iff_ne.mpr c30
            simp only [Option.some.injEq, Prod.mk.injEq] at H
            obtain ⟨rfl, rfl⟩ := H
            have p19 : 0 ≤ (0 : Int) := (by omega)
            have q19 : 0 < a0.size := (by have : (0 : Int) < (a0.size : Int) := of_decide_eq_true (by first | (with_reducible assumption) | assumption); omega)
            have hx19 : ∀ h : 0 < a0.size, ((a0[0]'h).toNat : Int) = bt a0 0 := bt_at a0 0
            clear p19
            have qi19 : (0 < (a0.size : Int)) = True := eq_true (of_decide_eq_true (by first | (with_reducible assumption) | assumption))
            replace q19 := eq_true q19
            go_wp2_with (first | (go_at_call 36; (with_reducible refine (pascalineref01_Text.calls x4_2 t309 _ A29.out).mono ?_); rintro e w32 ⟨rfl, hb⟩; have n0_ := mK (bP (by repeat (first | (with_reducible first | exact HB.out | apply bA | apply bN | apply bD) | exact HB.out)) hb); clear HB; have HB := n0_; clear n0_; (try clear hb)))
            go_ret2
            exact ⟨by first | rfl | (simp [errW_none, errW_some] <;> rfl) | (simp [*, errW_none, errW_some] <;> rfl), by repeat (first | (with_reducible first | exact HB.out | apply bA | apply bN | apply bD) | exact HB.out)⟩
       ·
        rw [if_neg c18] at H
        exact absurd H (by simp)

end Go.Proofs.Ytmajngcgejkghaa.P

namespace Go.Proofs.Ytmajngcgejkghaa.P
open Go.RowKit Go.Proofs.YtmajngcgejkghaaW.PrintWords Go.Proofs.YtmajngcgejkghaaW.PrintLast Go.Proofs.YtmajngcgejkghaaW.PrintMore
attribute [local go_sem] max2_int min2_int max_two min_two max_three min_three max_four min_four   -- for this text's walks alone
set_option linter.unusedVariables false
set_option linter.unusedSimpArgs false

/-! ### pascalineref02_number: function 35 -/
def pascalineref02_number.f (k : Nat) (a0 : ByteArray) (a1 : ByteArray) : Option (Int × Bool) := if (a1.size : Int) < (a0.size : Int) then (some (0, false)) else (if 0 ≤ (a0.size : Int) then (if (a0.size : Int) ≤ (a1.size : Int) then (if (a1.extract 0 ((a0.size : Int) : Int).toNat).toList = a0.toList then ((pascalineref01_Parse.f k (a1.extract ((a0.size : Int) : Int).toNat a1.size)).bind fun bt310 => (some (wrap64 (bt310.1), bt310.2))) else (some (0, false))) else (none)) else (none))
theorem pascalineref02_number.mono : ∀ a0 a1 k, LeO (pascalineref02_number.f k a0 a1) (pascalineref02_number.f (k + 1) a0 a1) := by
 intro a0 a1 k
 unfold pascalineref02_number.f
 repeat' first
  | (with_reducible exact pascalineref01_Parse.mono _ _)
  | (with_reducible exact LeO.refl _)
  | (with_reducible exact LeO.none _)
  | (with_reducible refine LeO.ite ?_ ?_)
  | (with_reducible refine LeO.bind ?_ (fun _ => ?_))
  | exact LeO.none _
  | refine LeO.ite ?_ ?_
  | refine LeO.bind ?_ (fun _ => ?_)
set_option maxHeartbeats 8000000 in
set_option maxRecDepth 100000 in
theorem pascalineref02_number.calls (k : Nat) (a0 : ByteArray) (a1 : ByteArray) (r1 : Int) (r2 : Bool) (w : World) (h : pascalineref02_number.f k a0 a1 = some (r1, r2)) :
 Calls Try.prog 35 #[.string a0, .string a1] w fun e w' => e = .returned (.tuple #[.int .i64 r1, .bool r2]) ∧ Below w.heap.size w w' := by
 have HB := mK (Below.refl w.heap.size w)
 have H : (if (a1.size : Int) < (a0.size : Int) then (some (0, false)) else (if 0 ≤ (a0.size : Int) then (if (a0.size : Int) ≤ (a1.size : Int) then (if (a1.extract 0 ((a0.size : Int) : Int).toNat).toList = a0.toList then ((pascalineref01_Parse.f k (a1.extract ((a0.size : Int) : Int).toNat a1.size)).bind fun bt310 => (some (wrap64 (bt310.1), bt310.2))) else (some (0, false))) else (none)) else (none))) = some (r1, r2) := h
 clear h
 by_cases c3 : (a1.size : Int) < (a0.size : Int)
 ·
  rw [if_pos c3] at H
  have c3b0 : decide ((a1.size : Int) < (a0.size : Int)) = true := decide_eq_true c3
  have c3b1 : decide (a1.size < a0.size) = true := decide_eq_true (Int.ofNat_lt.mp c3)
  clear c3
  simp only [Option.some.injEq, Prod.mk.injEq] at H
  obtain ⟨rfl, rfl⟩ := H
  go_enter Try.func35, Try.ntmps35
  go_wp2
  go_ret2
  exact ⟨by first | rfl | (simp [errW_none, errW_some] <;> rfl) | (simp [*, errW_none, errW_some] <;> rfl), by repeat (first | (with_reducible first | exact HB.out | apply bA | apply bN | apply bD) | exact HB.out)⟩
 ·
  rw [if_neg c3] at H
  have c3b0 : decide ((a1.size : Int) < (a0.size : Int)) = false := decide_eq_false c3
  have c3b1 : decide (a1.size < a0.size) = false := decide_eq_false (fun h => c3 (Int.ofNat_lt.mpr h))
  clear c3
  by_cases c4 : 0 ≤ (a0.size : Int)
  ·
   rw [if_pos c4] at H
   have c4b0 := eq_true c4
   have c4b1 : decide (0 ≤ (a0.size : Int)) = true := decide_eq_true c4
   clear c4
   by_cases c5 : (a0.size : Int) ≤ (a1.size : Int)
   ·
    rw [if_pos c5] at H
    have c5b0 := eq_true c5
    have c5b1 : decide ((a0.size : Int) ≤ (a1.size : Int)) = true := decide_eq_true c5
    clear c5
    by_cases c6 : (a1.extract 0 ((a0.size : Int) : Int).toNat).toList = a0.toList
    ·
     rw [if_pos c6] at H
     have c6b0 : ((a1.extract 0 ((a0.size : Int) : Int).toNat).toList == a0.toList) = true := beq_iff_eq.mpr c6
     (try simp only [Int.toNat_natCast] at c6b0)
     have c6b1 : ((a1.extract 0 ((a0.size : Int) : Int).toNat).toList != a0.toList) = false := bR c6
     (try simp only [Int.toNat_natCast] at c6b1)
     clear c6
     have c7b0 := eq_true (of_decide_eq_true (by first | (with_reducible assumption) | assumption) : 0 ≤ (a0.size : Int))
     have c8b0 := eq_true (of_decide_eq_true (by first | (with_reducible assumption) | assumption) : (a0.size : Int) ≤ (a1.size : Int))
     replace H := oB H
     obtain ⟨⟨t310, t311⟩, A90, H⟩ := H
     replace H : (some (wrap64 (t310), t311)) = some (r1, r2) := H
     have A9 := mK A90
     clear A90
     simp only [Option.some.injEq, Prod.mk.injEq] at H
     obtain ⟨rfl, rfl⟩ := H
     go_enter Try.func35, Try.ntmps35
     go_wp2_with (first | ((with_reducible refine gate_callee (f := 42) rfl ?_); refine goesL_ (some 26) rfl rfl Try.func42 (by kernel_rfl) rfl #[.string (a1.extract ((a0.size : Int) : Int).toNat a1.size)] rfl (by (try simp only [List.map_toArray, List.map_cons, List.map_nil]); first | done | rfl) ?_; (with_reducible refine (pascalineref01_Parse.calls k (a1.extract ((a0.size : Int) : Int).toNat a1.size) t310 t311 _ A9.out).mono ?_); rintro e w10 ⟨rfl, hb⟩; refine ⟨_, rfl, ?_⟩; have n0_ := mK (bP (by repeat (first | (with_reducible first | exact HB.out | apply bA | apply bN | apply bD) | exact HB.out)) hb); clear HB; have HB := n0_; clear n0_; (try clear hb)))
     go_ret2
     exact ⟨by first | rfl | (simp [errW_none, errW_some] <;> rfl) | (simp [*, errW_none, errW_some] <;> rfl), by repeat (first | (with_reducible first | exact HB.out | apply bA | apply bN | apply bD) | exact HB.out)⟩
    ·
     rw [if_neg c6] at H
     have c6b0 : ((a1.extract 0 ((a0.size : Int) : Int).toNat).toList == a0.toList) = false := bQ c6
     (try simp only [Int.toNat_natCast] at c6b0)
     have c6b1 : ((a1.extract 0 ((a0.size : Int) : Int).toNat).toList != a0.toList) = true := bne_iff_ne.mpr c6
     (try simp only [Int.toNat_natCast] at c6b1)
     simp only [Option.some.injEq, Prod.mk.injEq] at H
     obtain ⟨rfl, rfl⟩ := H
     go_enter Try.func35, Try.ntmps35
     go_wp2
     go_ret2
     exact ⟨by first | rfl | (simp [errW_none, errW_some] <;> rfl) | (simp [*, errW_none, errW_some] <;> rfl), by repeat (first | (with_reducible first | exact HB.out | apply bA | apply bN | apply bD) | exact HB.out)⟩
   ·
    rw [if_neg c5] at H
    exact absurd H (by simp)
  ·
   rw [if_neg c4] at H
   exact absurd H (by simp)

end Go.Proofs.Ytmajngcgejkghaa.P

-- Written by a program of this session (wip/tools/hp.py) out of the translation.
import Derived.Test.YtbfepcajbbeheaaPx0
import Derived.Test.YtbfepcajbbeheaaPx1
namespace Go.Proofs.Ytbfepcajbbeheaa.P
open Go.RowKit Go.Proofs.YtbfepcajbbeheaaW.PrintWords Go.Proofs.YtbfepcajbbeheaaW.PrintLast Go.Proofs.YtbfepcajbbeheaaW.PrintMore
attribute [local go_sem] max2_int min2_int max_two min_two max_three min_three max_four min_four   -- for this text's walks alone
set_option linter.unusedVariables false
set_option linter.unusedSimpArgs false

/-! ### turtle_Turtle_Length: function 22 -/
open Go.Proofs.Ytbfepcajbbeheaa.C
theorem tu_at2 {w : World} {A : Option Addr} {n : Nat} {xs : List S70} (h : Kd.C kSt w A n xs) (i : Nat) (hi : i < xs.length) (h1 : (i : Int) < n) : ∃ ad a b c d, A = some ad ∧ w.cell? (ad.add (i * 2)) = some (.complex .f64 a b) ∧ w.cell? ⟨(ad.add (i * 2)).block, (ad.add (i * 2)).off + 1, none⟩ = some (.complex .f64 c d) ∧
    Fl a xs[i].f0 ∧ Fl b xs[i].f1 ∧ Fl c xs[i].f2 ∧ Fl d xs[i].f3 := by
  obtain ⟨ad, cs, e, _, hK, hc0⟩ := Kd.C_get h z70 (i : Int) (by omega) h1
  rw [Int.toNat_natCast] at hK hc0
  have hc : ∀ j u, cs[j]? = some u → w.cell? (ad.add (i * 2 + j)) = some u := hc0
  have er : xs.getD i z70 = xs[i] := by simp [List.getD_eq_getElem?_getD, hi]
  rw [er] at hK
  obtain ⟨q1, q2, rfl, ⟨a, b, rfl, f1, f2⟩, ⟨c, d, rfl, f3, f4⟩⟩ := hK
  exact ⟨ad, a, b, c, d, e, hc 0 _ rfl, by rw [← add_field _ _ 1 (by omega)]; exact hc 1 _ rfl, f1, f2, f3, f4⟩
/-- May a stroke be on the paper? -/
def tu_on (x : S70) : Prop := (-1099511627776 ≤ x.f0 ∧ x.f0 ≤ 1099511627776) ∧ (-1099511627776 ≤ x.f1 ∧ x.f1 ≤ 1099511627776) ∧ (-1099511627776 ≤ x.f2 ∧ x.f2 ≤ 1099511627776) ∧ (-1099511627776 ≤ x.f3 ∧ x.f3 ≤ 1099511627776)
def tu_by (x : S70) : Int := max (x.f2 - x.f0) (-(x.f2 - x.f0)) + max (x.f3 - x.f1) (-(x.f3 - x.f1))
def tu_len (l : List S70) : Int := l.foldl (fun n x => n + tu_by x) 0
theorem tu_len_snoc (l : List S70) (x : S70) : tu_len (l ++ [x]) = tu_len l + tu_by x := by unfold tu_len; simp
set_option maxRecDepth 100000 in
set_option maxHeartbeats 4000000 in
theorem tu_Length_calls (base g : Nat) (T : Tu) (w : World) (hT : IsT base w g T) (hl : T.l.length ≤ 1000) (hon : ∀ x ∈ T.l, tu_on x) :
    Calls Try.prog 22 #[.pointer (some ⟨g, 0, none⟩)] w fun e w' => (∃ q, e = .returned (.float .f64 q) ∧ Fl q (tu_len T.l)) ∧ Below w.heap.size w w' := by
  obtain ⟨ax, ay, lx, ly, s, v, hblk, hf, hR, hg⟩ := hT
  obtain ⟨A, c, rfl, hc, hC⟩ := Kd.R_reads hR
  have HC := Aside0.mk hC; have HL := Aside0.mk hl; have HON := Aside0.mk hon
  have c4 : w.cell? ⟨g, 4, none⟩ = some (.slice A T.l.length c) := blk_cell hblk 4
  have hst : ∀ (p : Addr) (q r : Nat) (w : World), (store p (.complex .f64 q r)).run Try.prog w = stored Try.prog w p (.complex .f64 q r) .plain := fun p q r w => run_store Try.prog w p _ .plain rfl
  have hn : ∀ (k : FloatKind) (q : Nat) (w : World), (Op.unary .neg (.float k q)).run Try.prog w = .ok (.float k (Op.negFloat k q)) w := fun _ _ _ => rfl
  clear hblk hf hR hg hC hl hon hc
  go_enter Try.func22, Try.ntmps22
  go_wp2
  go_loopg [3, 12] (T.l.length + 1) (fun kx v3 v12 wr => ∃ (i q : Nat), v3 = .float .f64 q ∧ v12 = .int .i64 i ∧ Aside0 (i + kx = T.l.length + 1 ∧ i ≤ T.l.length) ∧ Aside0 (Fl q (tu_len (T.l.take i)) ∧ 0 ≤ tu_len (T.l.take i) ∧ tu_len (T.l.take i) ≤ 5000000000000 * i) ∧ Aside0 (Below w.heap.size w wr))
  case atStart => exact ⟨0, 0, rfl, rfl, ⟨⟨by omega, by omega⟩⟩, ⟨⟨fl_0, by simp [tu_len], by simp [tu_len]⟩⟩, ⟨Below.refl _ _⟩⟩
  case round =>
    obtain ⟨i, q, rfl, rfl, HI, HQ, HW⟩ := hrel
    by_cases hi : i < T.l.length
    · obtain ⟨ad, a, b, cc, d, e, hx0, hx1, f1, f2, f3, f4⟩ := tu_at2 HC.out i hi (by omega)
      cases e
      have ho := HON.out T.l[i] (List.getElem_mem hi)
      have htk := List.take_succ_eq_append_getElem hi
      replace hx0 := pw_cell_below HW.out hx0
      replace hx1 := pw_cell_below HW.out hx1
      have hq := HQ.out
      have hll := HL.out
      obtain ⟨o1, o2, o3, o4⟩ := ho
      obtain ⟨re, im, e1, g1, g2⟩ := fl_csub f3 f4 f1 f2 (by omega) (by omega)
      obtain ⟨m1, e2, g3⟩ := fl_max (P := Try.prog) g1 (fl_neg g1)
      obtain ⟨m2, e3, g4⟩ := fl_max (P := Try.prog) g2 (fl_neg g2)
      obtain ⟨m3, e4, g5⟩ := fl_add g3 g4 (by omega)
      have hby : tu_by T.l[i] = max (T.l[i].f2 - T.l[i].f0) (-(T.l[i].f2 - T.l[i].f0)) + max (T.l[i].f3 - T.l[i].f1) (-(T.l[i].f3 - T.l[i].f1)) := rfl
      rw [← hby] at g5
      have hb2 : 0 ≤ tu_by T.l[i] ∧ tu_by T.l[i] ≤ 5000000000000 := by rw [hby]; omega
      obtain ⟨m4, e5, g6⟩ := fl_add hq.1 g5 (by omega)
      rw [← tu_len_snoc, ← htk] at g6
      have HG := Aside0.mk (show Fl m4 (tu_len (T.l.take (i + 1))) ∧ 0 ≤ tu_len (T.l.take (i + 1)) ∧ tu_len (T.l.take (i + 1)) ≤ 5000000000000 * ((i + 1 : Nat) : Int) from ⟨g6, by rw [htk, tu_len_snoc]; omega, by rw [htk, tu_len_snoc]; omega⟩)
      have r1 : ∀ w : World, (binOp .sub 47 (.complex .f64 cc d) (.complex .f64 a b)).run Try.prog w = .ok (.complex .f64 re im) w := fun w => run_complex_sum w .sub (.inr rfl) _ .f64 _ _ _ _ re im e1
      have r2 : ∀ w : World, (binOp .add 48 (.float .f64 m1) (.float .f64 m2)).run Try.prog w = .ok (.float .f64 m3) w := fun w => run_float_arith w .add _ .f64 _ _ m3 e4
      have r3 : ∀ w : World, (binOp .add 48 (.float .f64 q) (.float .f64 m3)).run Try.prog w = .ok (.float .f64 m4) w := fun w => run_float_arith w .add _ .f64 _ _ m4 e5
      clear f1 f2 f3 f4 g1 g2 g3 g4 g5 g6 o1 o2 o3 o4 hq hll e1 e4 e5 hby hb2 htk
      have hi1 : (i : Int) < (T.l.length : Int) := by omega
      have hi0 : (0 : Int) ≤ (i : Int) := by omega
      have hin : decide (i < T.l.length) = true := decide_eq_true hi
      have hjn : decide ((i : Int) < (T.l.length : Int)) = true := decide_eq_true hi1
      go_wp2
      go_roundg (T.l.length - i)
      case measure => have := HI.out; omega
      case rel => exact ⟨i + 1, m4, rfl, congrArg (Value.int .i64) (show wrap64 ((i : Int) + 1) = ((i + 1 : Nat) : Int) from by have := HI.out; have := HL.out; unfold wrap64; omega), ⟨by have := HI.out; omega⟩, HG, ⟨below_alloc HW.out _⟩⟩
    · have hi1 : decide ((i : Int) < (T.l.length : Int)) = false := decide_eq_false (by omega)
      have hin : decide (i < T.l.length) = false := decide_eq_false hi
      have HI2 := Aside0.mk (show i = T.l.length by have := HI.out; omega)
      have hq : T.l.take i = T.l := by rw [HI2.out, List.take_length]
      have HQ2 := Aside0.mk (show Fl q (tu_len T.l) from by have := HQ.out.1; rwa [hq] at this)
      clear hi hq
      go_wp2
      go_ret
      exact ⟨⟨q, rfl, HQ2.out⟩, HW.out⟩

end Go.Proofs.Ytbfepcajbbeheaa.P

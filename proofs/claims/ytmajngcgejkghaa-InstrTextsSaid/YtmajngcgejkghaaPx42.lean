import Derived.Test.YtmajngcgejkghaaPx0
import Derived.Test.YtmajngcgejkghaaCCf
import Derived.Test.YtmajngcgejkghaaPx1
import Derived.Test.YtmajngcgejkghaaPx13
import Derived.Test.YtmajngcgejkghaaPx38
namespace Go.Proofs.Ytmajngcgejkghaa.P
open Go.RowKit Go.Proofs.YtmajngcgejkghaaW.PrintWords Go.Proofs.YtmajngcgejkghaaW.PrintLast Go.Proofs.YtmajngcgejkghaaW.PrintMore
attribute [local go_sem] max2_int min2_int max_two min_two max_three min_three max_four min_four   -- for this text's walks alone
set_option linter.unusedVariables false
set_option linter.unusedSimpArgs false

/-! ### pascalineref02_Fill: function 23 -/
def rf_go (k : Nat) (l : List ByteArray) : List ByteArray → Nat → List Int → Option (Option (List Int))
 | [], _, ns => some (some ns)
 | h :: t, j, ns => (pascalineref02_number.f k h (rdOf ByteArray.empty l (j : Int))).bind fun u => if u.2 = true then rf_go k l t (j + 1) (ns.set j u.1) else some none
def rf_rest (k : Nat) (op : Int) (l hs : List ByteArray) (f : List Int → Int × Int × Int × Int) : Option (Int × Int × Int × Int × Int × Bool) :=
 if l.length = hs.length then (rf_go k l hs 0 [0, 0, 0, 0]).bind fun r => match r with
  | none => some (op, 0, 0, 0, 0, false)
  | some ns => (pascalineref02_Check.f k op (f ns).1 (f ns).2.1 (f ns).2.2.1 (f ns).2.2.2).bind fun e => some (op, (f ns).1, (f ns).2.1, (f ns).2.2.1, (f ns).2.2.2, decide (e = 0))
 else some (op, 0, 0, 0, 0, false)
def rf_nd (ns : List Int) (j : Nat) : Int := ns.getD j 0
def rf_r : ByteArray := ⟨#[114]⟩
def rf_e : ByteArray := ⟨#[]⟩
def rf_b (op : Int) : ByteArray := if op = 26 then rf_e else rf_r
def pascalineref02_Fill.f (k : Nat) (op : Int) (l1 : List ByteArray) : Option (Int × Int × Int × Int × Int × Bool) :=
 (pascalineref02_Shape.f k op).bind fun s =>
  if s < 0 then some (op, 0, 0, 0, 0, false)
  else if s = 0 then rf_rest k op l1 [] (fun _ => (0, 0, 0, 0))
  else if s = 1 ∨ s = 2 then rf_rest k op l1 [rf_r, rf_e] (fun ns => (rf_nd ns 0, 0, 0, rf_nd ns 1))
  else if s = 3 ∨ s = 4 then rf_rest k op l1 [rf_r, rf_b op, rf_e] (fun ns => (rf_nd ns 0, rf_nd ns 1, 0, rf_nd ns 2))
  else if s = 5 then rf_rest k op l1 [rf_r, rf_b op, rf_r] (fun ns => (rf_nd ns 0, rf_nd ns 1, rf_nd ns 2, 0))
  else if s = 6 then rf_rest k op l1 [rf_r] (fun ns => (rf_nd ns 0, 0, 0, 0))
  else if s = 7 ∨ s = 8 then rf_rest k op l1 [rf_e] (fun ns => (0, 0, 0, rf_nd ns 0))
  else none
theorem rf_go_mono (k : Nat) (l : List ByteArray) : ∀ (hs : List ByteArray) (j : Nat) (ns : List Int), LeO (rf_go k l hs j ns) (rf_go (k + 1) l hs j ns)
 | [], _, _ => LeO.refl _
 | h :: t, j, ns => by
  unfold rf_go
  exact LeO.bind (pascalineref02_number.mono _ _ _) (fun u => LeO.ite (rf_go_mono k l t _ _) (LeO.refl _))
theorem rf_rest_mono (k : Nat) (op : Int) (l hs : List ByteArray) (f : List Int → Int × Int × Int × Int) : LeO (rf_rest k op l hs f) (rf_rest (k + 1) op l hs f) := by
 unfold rf_rest
 refine LeO.ite ?_ (LeO.refl _)
 refine LeO.bind (rf_go_mono k l _ _ _) (fun r => ?_)
 cases r with
 | none => exact LeO.refl _
 | some ns => exact LeO.bind (pascalineref02_Check.mono _ _ _ _ _ _) (fun _ => LeO.refl _)
theorem pascalineref02_Fill.mono : ∀ a0 a1 k, LeO (pascalineref02_Fill.f k a0 a1) (pascalineref02_Fill.f (k + 1) a0 a1) := by
 intro op l k
 unfold pascalineref02_Fill.f
 refine LeO.bind (pascalineref02_Shape.mono _ _) (fun s => ?_)
 exact LeO.ite (LeO.refl _) (LeO.ite (rf_rest_mono _ _ _ _ _) (LeO.ite (rf_rest_mono _ _ _ _ _) (LeO.ite (rf_rest_mono _ _ _ _ _) (LeO.ite (rf_rest_mono _ _ _ _ _) (LeO.ite (rf_rest_mono _ _ _ _ _) (LeO.ite (rf_rest_mono _ _ _ _ _) (LeO.refl _)))))))
theorem rf_row0 {base : Nat} {W : World} (hb : base ≤ W.heap.size) : Kd.R Kd.string 9 (W.alloc (.cells #[] 9)) base (fun _ => True) (.slice (some ⟨W.heap.size, 0, none⟩) 0 0) [] := by
 refine ⟨fun _ _ => trivial, [], ?_, Reps.none _ _⟩
 have h2 := World.ownsRow_lit (base := base) (e := 9) (size := 1) W #[] 0 hb (by simp [maxLen]) (by simp)
 exact h2
theorem rf_start (w : World) (O0 O1 : Obj) (nd : Nat) : ((((w.alloc O0).alloc O1).drewN nd).alloc (.cells #[] 9)).heap[w.heap.size]? = some O0 ∧ ((((w.alloc O0).alloc O1).drewN nd).alloc (.cells #[] 9)).heap[w.heap.size + 1]? = some O1 ∧
 Below w.heap.size w ((((w.alloc O0).alloc O1).drewN nd).alloc (.cells #[] 9)) ∧
 Kd.R Kd.string 9 ((((w.alloc O0).alloc O1).drewN nd).alloc (.cells #[] 9)) w.heap.size (fun _ => True) (.slice (some ⟨w.heap.size + 1 + 1, 0, none⟩) 0 0) [] := by
 have e : (w.alloc O0).heap.size = w.heap.size + 1 := by simp
 have h1 := blk_new (w.alloc O0) O1
 rw [e] at h1
 have hb : Below w.heap.size w (((w.alloc O0).alloc O1).drewN nd) := by
  repeat (first | exact Below.refl _ _ | apply bA | apply bN)
 refine ⟨kA (kN (kA (blk_new w O0) O1) nd) _, kA (kN h1 nd) _, bA hb _, ?_⟩
 have := rf_row0 (base := w.heap.size) (W := ((w.alloc O0).alloc O1).drewN nd) hb.size
 have es : (((w.alloc O0).alloc O1).drewN nd).heap.size = w.heap.size + 1 + 1 := by simp
 rw [es] at this
 exact this
theorem rf_five {w : World} {g : Nat} {t : TypeId} {x0 x1 x2 x3 x4 : Value} (h : w.heap[g]? = some (.cells #[x0, x1, x2, x3, x4] t (0, 0))) (y0 y1 y2 y3 y4 : Value) :
 (((((w.setCell ⟨g, 0, none⟩ y0).setCell ⟨g, 1, none⟩ y1).setCell ⟨g, 2, none⟩ y2).setCell ⟨g, 3, none⟩ y3).setCell ⟨g, 4, none⟩ y4).heap[g]? = some (.cells #[y0, y1, y2, y3, y4] t (0, 0)) :=
 kP (kP (kP (kP (kP h 0 y0 rfl) 1 y1 rfl) 2 y2 rfl) 3 y3 rfl) 4 y4 rfl
theorem rf_fiveb {w0 w : World} {g : Nat} (hb : Below w0.heap.size w0 w) (hg : w0.heap.size ≤ g) (y0 y1 y2 y3 y4 : Value) :
 Below w0.heap.size w0 (((((w.setCell ⟨g, 0, none⟩ y0).setCell ⟨g, 1, none⟩ y1).setCell ⟨g, 2, none⟩ y2).setCell ⟨g, 3, none⟩ y3).setCell ⟨g, 4, none⟩ y4) :=
 bS (bS (bS (bS (bS hb hg) hg) hg) hg) hg
theorem rf_far5 {w : World} {g : Nat} {t : TypeId} {x0 x1 x2 x3 x4 : Value} (h : w.heap[g + 1]? = some (.cells #[x0, x1, x2, x3, x4] t (0, 0))) (y0 y1 y2 y3 y4 : Value) :
 (((((w.setCell ⟨g, 0, none⟩ y0).setCell ⟨g, 1, none⟩ y1).setCell ⟨g, 2, none⟩ y2).setCell ⟨g, 3, none⟩ y3).setCell ⟨g, 4, none⟩ y4).cell? ⟨g + 1, 0, none⟩ = some x0 ∧ (((((w.setCell ⟨g, 0, none⟩ y0).setCell ⟨g, 1, none⟩ y1).setCell ⟨g, 2, none⟩ y2).setCell ⟨g, 3, none⟩ y3).setCell ⟨g, 4, none⟩ y4).cell? ⟨g + 1, 1, none⟩ = some x1 ∧ (((((w.setCell ⟨g, 0, none⟩ y0).setCell ⟨g, 1, none⟩ y1).setCell ⟨g, 2, none⟩ y2).setCell ⟨g, 3, none⟩ y3).setCell ⟨g, 4, none⟩ y4).cell? ⟨g + 1, 2, none⟩ = some x2 ∧ (((((w.setCell ⟨g, 0, none⟩ y0).setCell ⟨g, 1, none⟩ y1).setCell ⟨g, 2, none⟩ y2).setCell ⟨g, 3, none⟩ y3).setCell ⟨g, 4, none⟩ y4).cell? ⟨g + 1, 3, none⟩ = some x3 ∧ (((((w.setCell ⟨g, 0, none⟩ y0).setCell ⟨g, 1, none⟩ y1).setCell ⟨g, 2, none⟩ y2).setCell ⟨g, 3, none⟩ y3).setCell ⟨g, 4, none⟩ y4).cell? ⟨g + 1, 4, none⟩ = some x4 := by
 have hn : g + 1 ≠ g := by omega
 have H := kR (kR (kR (kR (kR h (p := ⟨g, 0, none⟩) hn y0) (p := ⟨g, 1, none⟩) hn y1) (p := ⟨g, 2, none⟩) hn y2) (p := ⟨g, 3, none⟩) hn y3) (p := ⟨g, 4, none⟩) hn y4
 exact ⟨kC H 0, kC H 1, kC H 2, kC H 3, kC H 4⟩
theorem rf_cf {w : World} {g : Nat} {t : TypeId} {x0 x1 x2 x3 x4 : Value} (h : w.heap[g]? = some (.cells #[x0, x1, x2, x3, x4] t (0, 0))) : w.cell? ⟨g, 0, none⟩ = some x0 ∧ w.cell? ⟨g, 1, none⟩ = some x1 ∧ w.cell? ⟨g, 2, none⟩ = some x2 ∧ w.cell? ⟨g, 3, none⟩ = some x3 ∧ w.cell? ⟨g, 4, none⟩ = some x4 ∧
 w.frozen? ⟨g, 0, none⟩ = false ∧ w.frozen? ⟨g, 1, none⟩ = false ∧ w.frozen? ⟨g, 2, none⟩ = false ∧ w.frozen? ⟨g, 3, none⟩ = false ∧ w.frozen? ⟨g, 4, none⟩ = false :=
 ⟨(kC h 0).trans rfl, (kC h 1).trans rfl, (kC h 2).trans rfl, (kC h 3).trans rfl, (kC h 4).trans rfl, kF h 0, kF h 1, kF h 2, kF h 3, kF h 4⟩
theorem rf_st {w w0 : World} {gN : Nat} {tI tN tZ : TypeId} {cs cs' ns zs : Array Value} (hi : w.heap[w0.heap.size + 1]? = some (.cells cs tI (0, 0))) (hn : w.heap[gN]? = some (.cells ns tN (0, 0))) (hz : w.heap[w0.heap.size]? = some (.cells zs tZ (0, 0))) (hb : Below w0.heap.size w0 w) (ht : tN ≠ tI) (p : Nat) (v : Value) (e : cs.setIfInBounds p v = cs') :
 (w.setCell ⟨w0.heap.size + 1, p, none⟩ v).heap[w0.heap.size + 1]? = some (.cells cs' tI (0, 0)) ∧ (w.setCell ⟨w0.heap.size + 1, p, none⟩ v).heap[gN]? = some (.cells ns tN (0, 0)) ∧
 (w.setCell ⟨w0.heap.size + 1, p, none⟩ v).heap[w0.heap.size]? = some (.cells zs tZ (0, 0)) ∧ Below w0.heap.size w0 (w.setCell ⟨w0.heap.size + 1, p, none⟩ v) :=
 ⟨kP hi p v e, kR hn (blk_ne hn hi ht) v, kR hz (by show w0.heap.size ≠ w0.heap.size + 1; omega) v, bS hb (by show w0.heap.size ≤ w0.heap.size + 1; omega)⟩
theorem rf_no (w : World) (O0 O1 : Obj) (nd : Nat) : (((w.alloc O0).alloc O1).drewN nd).heap[w.heap.size]? = some O0 ∧ (((w.alloc O0).alloc O1).drewN nd).heap[w.heap.size + 1]? = some O1 ∧ Below w.heap.size w (((w.alloc O0).alloc O1).drewN nd) := by
 have e : (w.alloc O0).heap.size = w.heap.size + 1 := by simp
 have h1 := blk_new (w.alloc O0) O1
 rw [e] at h1
 refine ⟨kN (kA (blk_new w O0) O1) nd, kN h1 nd, ?_⟩
 repeat (first | exact Below.refl _ _ | apply bA | apply bN)
theorem rf_four {ns : List Int} (h : ns.length = 4) : ∃ n0 n1 n2 n3, ns = [n0, n1, n2, n3] := by
 match ns, h with
 | [n0, n1, n2, n3], _ => exact ⟨n0, n1, n2, n3, rfl⟩
theorem rdOf_at_ (L : List ByteArray) (j : Nat) (h : j < L.length) : rdOf ByteArray.empty L (j : Int) = L[j] := by
 unfold rdOf; simp [h]
set_option maxHeartbeats 4000000 in
set_option maxRecDepth 100000 in
theorem rf_caseAI (k : Nat) (op s : Int) (A1 : Option Addr) (c1 : Nat) (l1 : List ByteArray) (r1 r2 r3 r4 r5 : Int) (r6 : Bool) (w : World) (hr1 : Kd.C Kd.string w A1 l1.length l1) (hc1 : l1.length ≤ c1)
 (HS : Aside0 (pascalineref02_Shape.f k op = some s)) (hA : Aside0 (pascalineref02_has.f s = some (true, false, false))) (hn : decide (s < 0) = false) (b0 : (s != 0) = true) (b5 : (s != 5) = true) (b6 : (s != 6) = true)
 (HH : Aside0 (rf_rest k op l1 [rf_r, rf_e] (fun ns => (rf_nd ns 0, 0, 0, rf_nd ns 1)) = some (r1, r2, r3, r4, r5, r6))) :
 Calls Try.prog 23 #[.int .i64 op, .slice A1 l1.length c1] w fun e w' => e = .returned (.tuple #[.agg #[.int .i64 r1, .int .i64 r2, .int .i64 r3, .int .i64 r4, .int .i64 r5], .bool r6]) ∧ Below w.heap.size w w' := by
 have HR1 := mK hr1
 clear hr1
 go_enter Try.func23, Try.ntmps23
 go_upto_region 7 with (first | (go_at_call 14; ((with_reducible refine (pascalineref02_Shape.calls k op s _ HS.out).mono ?_)); rintro e w' ⟨rfl, ⟨nd, rfl⟩⟩) | (go_at_call 30; ((with_reducible refine (pascalineref02_has.calls s true false false _ hA.out).mono ?_)); rintro e w' ⟨rfl, ⟨nd2, rfl⟩⟩))
 obtain ⟨g0, g1, g2, g3⟩ := rf_start w (.cells #[.int .i64 0, .int .i64 0, .int .i64 0, .int .i64 0, .int .i64 0] 31) (.cells #[.int .i64 op, .int .i64 0, .int .i64 0, .int .i64 0, .int .i64 0] 31) (nd + nd2)
 obtain ⟨W0, hW0⟩ : ∃ W0, ((((w.alloc (.cells #[.int .i64 0, .int .i64 0, .int .i64 0, .int .i64 0, .int .i64 0] 31)).alloc (.cells #[.int .i64 op, .int .i64 0, .int .i64 0, .int .i64 0, .int .i64 0] 31)).drewN (nd + nd2)).alloc (.cells #[] 9)) = W0 := ⟨_, rfl⟩
 rw [hW0] at g0 g1 g2 g3 ⊢
 have HZ := mK g0; have HI := mK g1; have HB := mK g2; have HO := mK g3
 clear g0 g1 g2 g3 hW0
 go_upto_region 18 with (first | ((with_reducible refine gate_builtin (b := .append) (xs := #[.tmp 33, .tmp 34]) rfl ?_); at_builtin; refine Kd.R_append Kd.string (w0 := w) w.heap.size rfl (.tmp 33) (.tmp 34) 45 9 (.string ⟨#[]⟩) 16 rfl Try.underlying45 info9 rfl (by decide) (by omega) (.slice (some ⟨w.heap.size + 1 + 1, 0, none⟩) 0 0) ([] : List ByteArray) (⟨#[114]⟩ : ByteArray) [.string (⟨#[114]⟩ : ByteArray)] (fun _ => True) (fun _ => False) rfl rfl ?aP0 (fun _ hk => hk.elim) ?aF0 ?aO0 ?aB0 ?aS0 ?aL0 ?_; (case aP0 => exact rfl); (case aB0 => exact (by repeat (first | (with_reducible first | exact HB.out | apply bA | apply bN | apply bD) | exact HB.out))); (case aF0 => exact (fun _ _ => trivial)); (case aO0 => exact (by (with_reducible repeat (first | apply Kd.R_alloc | apply Kd.R_drewN | apply Kd.R_drew)); exact HO.out)); (case aS0 => exact (bZ (by repeat (first | (with_reducible first | exact HB.out | apply bA | apply bN | apply bD) | exact HB.out)))); (case aL0 => (simp only [List.length_cons, List.length_nil]; omega)); intro v0 Wa0 ho hb hg hat; have n0_ := mK (blk_grown (g := w.heap.size + 1) (o := .cells #[.int .i64 op, .int .i64 0, .int .i64 0, .int .i64 0, .int .i64 0] 31) HI.out hg (Kd.R_ne HO.out HI.out (by decide))); have n1_ := mK (blk_grown (g := w.heap.size) (o := .cells #[.int .i64 0, .int .i64 0, .int .i64 0, .int .i64 0, .int .i64 0] 31) HZ.out hg (Kd.R_ne HO.out HZ.out (by decide))); obtain ⟨X0, y0, e1, hy0, -⟩ := Kd.R_reads ho; replace e1 : v0 = .slice X0 1 y0 := e1; subst e1; have n2_ := mK hb; have n3_ := mK (show Kd.R Kd.string 9 Wa0 w.heap.size (fun _ => True) (.slice X0 1 y0) [(⟨#[114]⟩ : ByteArray)] from ho); clear HI HZ HB HO; have HI := n0_; have HZ := n1_; have HB := n2_; have HO := n3_; clear n0_ n1_ n2_ n3_ hg hat ho hb hy0) | ((with_reducible refine gate_builtin (b := .append) (xs := #[.tmp 67, .tmp 68]) rfl ?_); at_builtin; refine Kd.R_append Kd.string (w0 := w) w.heap.size rfl (.tmp 67) (.tmp 68) 45 9 (.string ⟨#[]⟩) 16 rfl Try.underlying45 info9 rfl (by decide) (by omega) (.slice X0 1 y0) [(⟨#[114]⟩ : ByteArray)] (⟨#[]⟩ : ByteArray) [.string (⟨#[]⟩ : ByteArray)] (fun _ => True) (fun _ => False) rfl rfl ?aP1 (fun _ hk => hk.elim) ?aF1 ?aO1 ?aB1 ?aS1 ?aL1 ?_; (case aP1 => exact rfl); (case aB1 => exact (by repeat (first | (with_reducible first | exact HB.out | apply bA | apply bN | apply bD) | exact HB.out))); (case aF1 => exact (fun _ _ => trivial)); (case aO1 => exact (by (with_reducible repeat (first | apply Kd.R_alloc | apply Kd.R_drewN | apply Kd.R_drew)); exact HO.out)); (case aS1 => exact (bZ (by repeat (first | (with_reducible first | exact HB.out | apply bA | apply bN | apply bD) | exact HB.out)))); (case aL1 => (simp only [List.length_cons, List.length_nil]; omega)); intro v1 Wa1 ho hb hg hat; have n0_ := mK (blk_grown (g := w.heap.size + 1) (o := .cells #[.int .i64 op, .int .i64 0, .int .i64 0, .int .i64 0, .int .i64 0] 31) HI.out hg (Kd.R_ne HO.out HI.out (by decide))); have n1_ := mK (blk_grown (g := w.heap.size) (o := .cells #[.int .i64 0, .int .i64 0, .int .i64 0, .int .i64 0, .int .i64 0] 31) HZ.out hg (Kd.R_ne HO.out HZ.out (by decide))); obtain ⟨X1, y1, e1, hy1, -⟩ := Kd.R_reads ho; replace e1 : v1 = .slice X1 2 y1 := e1; subst e1; have n2_ := mK hb; have n3_ := mK (show Kd.R Kd.string 9 Wa1 w.heap.size (fun _ => True) (.slice X1 2 y1) [(⟨#[114]⟩ : ByteArray), (⟨#[]⟩ : ByteArray)] from ho); clear HI HZ HB HO; have HI := n0_; have HZ := n1_; have HB := n2_; have HO := n3_; clear n0_ n1_ n2_ n3_ hg hat ho hb hy1))
 have HH1 := HH.out
 clear HH
 unfold rf_rest at HH1
 by_cases hl : l1.length = 2
 ·
  rw [if_pos (show l1.length = ([rf_r, rf_e]).length from hl)] at HH1
  replace HH1 := oB HH1
  obtain ⟨q, hq, HH1⟩ := HH1
  have HQ := mK HH1; have HL := mK hl
  have hlb : ((l1.length : Int) != 2) = false := by rw [hl]; rfl
  clear HH1 hl
  have HGE := mK (bZ HB.out)
  go_wp2
  go_loopg [14] (3) (fun kx v14 wr => ∃ (j : Nat) (ns : List Int), v14 = .int .i64 j ∧ Aside0 (j + kx = 3 ∧ j ≤ 2 ∧ ns.length = 4) ∧ Aside0 (rf_go k l1 (List.drop j [rf_r, rf_e]) j ns = some q) ∧ Aside0 (wr.heap[Wa1.heap.size]? = some (.cells (ns.map (fun n => Value.int .i64 n)).toArray 71 (0, 0))) ∧ Aside0 (wr.heap[w.heap.size + 1]? = some (o5 op 0 0 0 0 31)) ∧ Aside0 (wr.heap[w.heap.size]? = some (o5 0 0 0 0 0 31)) ∧ Aside0 (Kd.R Kd.string 9 wr w.heap.size (fun _ => True) (.slice X1 2 y1) [rf_r, rf_e]) ∧ Aside0 (Below w.heap.size w wr))
  case atStart => exact ⟨0, [0, 0, 0, 0], rfl, ⟨⟨by omega, by omega, rfl⟩⟩, ⟨hq⟩, ⟨blk_new _ _⟩, ⟨kA HI.out _⟩, ⟨kA HZ.out _⟩, ⟨Kd.R_alloc HO.out _⟩, ⟨bA HB.out _⟩⟩
  case round =>
   obtain ⟨j, ns, rfl, HJ, HGo, HN2, HI2, HZ2, HO2, HB2⟩ := hrel
   by_cases hj : j < 2
   ·
    have hg := HGo.out
    have hjl : j < ([rf_r, rf_e]).length := hj
    rw [List.drop_eq_getElem_cons hjl] at hg
    unfold rf_go at hg
    replace hg := oB hg
    obtain ⟨⟨x1, ok1⟩, hNu, hg⟩ := hg
    obtain ⟨ad, e, hx⟩ := Kd.at_string HR1.out (j : Int) (by omega) (by have := HL.out; omega)
    cases e
    rw [Int.toNat_natCast] at hx
    obtain ⟨ae, e, hy⟩ := Kd.at_string (Kd.R_reads' HO2.out).2.2 (j : Int) (by omega) (by show (j : Int) < ((2 : Nat) : Int); omega)
    cases e
    rw [Int.toNat_natCast, rdOf_at_ _ _ hjl] at hy
    have hx2 := kW HB2.out hx
    have p1 : (0 ≤ (j : Int)) = True := eq_true (by omega)
    have p2 : ((j : Int) < 2) = True := eq_true (by omega)
    have p3 : ((j : Int) < (l1.length : Int)) = True := eq_true (by have := HL.out; omega)
    have p4 : decide ((j : Int) < 2) = true := decide_eq_true (by omega)
    have p5 : decide (j < 2) = true := decide_eq_true hj
    have p6 : (j < 2) = True := eq_true hj
    have p7 : (j < l1.length) = True := eq_true (by have := HL.out; omega)
    have p8 : ((j : Int) < 4) = True := eq_true (by omega)
    have p9 : (j < 4) = True := eq_true (by omega)
    have hw1 : wrap64 ((j : Int) + 1) = ((j + 1 : Nat) : Int) := by unfold wrap64; omega
    generalize ([rf_r, rf_e])[j] = hd at hNu hy
    generalize rdOf ByteArray.empty l1 (j : Int) = str at hNu hx hx2
    have HNu := mK hNu
    have HJ2 := mK hj
    have HX := mK (And.intro hy hx2)
    have HG3 := mK hg
    clear hNu hj hjl hx hg HGo
    have hs8 : 8 ≤ 8 := Nat.le_refl _
    clear hs8
    go_wp2
    go_region_held3 (fun w' => w'.cell? (ae.add j) = some (.string hd) ∧ w'.cell? (ad.add j) = some (.string str)) (first | with_reducible exact ⟨hy5, hx5⟩ | exact ⟨hy, hx2⟩) (first | (go_at_call 35; ((with_reducible refine (pascalineref02_number.calls k hd str x1 ok1 _ HNu.out).mono ?_)); rintro e w5 ⟨rfl, hb⟩; have hS := bP (below_drew (Below.refl wr.heap.size wr)) hb; have HN5 := mK (kB HN2.out hS); have HI5 := mK (kB HI2.out hS); have HZ5 := mK (kB HZ2.out hS); have HO5 := mK (Kd.R_below HO2.out hS); have HB5 := mK (bP HB2.out hS); have hy5 := kW hS HX.out.1; have hx5 := kW hS HX.out.2; clear hb hS))
    cases ok1 with
    | false =>
     have hg := HG3.out
     rw [if_neg (by simp)] at hg
     injection hg with hg
     subst hg
     have hq2 := HQ.out
     cases hq2
     have hzb := HZ5.out; have hib := HI5.out; obtain ⟨cz0, cz1, cz2, cz3, cz4, fz0, fz1, fz2, fz3, fz4⟩ := rf_cf HZ5.out; obtain ⟨ci0, ci1, ci2, ci3, ci4, fi0, fi1, fi2, fi3, fi4⟩ := rf_cf HI5.out
     go_wp2
     (try rw [Exit.noGoto_ret])
     refine bodyPost_ret (results_list (rs := [.cell 4 31, .tmp 5]) rfl (by simp) (.cell w.heap.size 31 #[.int .i64 op, .int .i64 0, .int .i64 0, .int .i64 0, .int .i64 0] (0, 0) _ rfl (rf_five HZ5.out _ _ _ _ _) Try.underlying31 rfl (by kernel_rfl) (.tmp .nil))) rfl ?_
     exact ⟨rfl, rf_fiveb HB5.out (Nat.le_refl _) _ _ _ _ _⟩
    | true =>
     have hg := HG3.out
     rw [if_pos rfl] at hg
     have HG2 := mK hg
     clear hg HG3
     have hns : j < ns.length := by have := HJ.out; have := HJ2.out; omega
     have HNS := mK hns
     clear hns
     go_wp2_with (first | ((with_reducible refine gate_store (t := 3) (p := 99) rfl ?_); refine store_event (t := 3) (p := 99) (v := ?vs1) (w1 := (w5.setCell ⟨Wa1.heap.size, j, none⟩ (.int .i64 x1))) ?hg ?ho ?hn ?hr ?_; (case ho => rfl); (case hg => rfl); (case hn => rfl); (case hr => (have hz5 := kF HN5.out j; have hc5 : w5.cell? ⟨Wa1.heap.size, j, none⟩ = some (.int .i64 (ns[j]'HNS.out)) := (kC HN5.out j).trans (by simp [HNS.out]); first | (go_simp; done) | (go_simp; rfl))); intro w6 hw; have HN6 := mK (show w6.heap[Wa1.heap.size]? = some (.cells ((ns.set j x1).map (fun n => Value.int .i64 n)).toArray 71 (0, 0)) from (by rw [hw]; exact kP HN5.out j _ (by rw [List.setIfInBounds_toArray, List.map_set]))); have HI6 := mK (show w6.heap[w.heap.size + 1]? = some (o5 op 0 0 0 0 31) from (by rw [hw]; exact kR HI5.out (blk_ne HI5.out HN5.out (by decide)) _)); have HZ6 := mK (show w6.heap[w.heap.size]? = some (o5 0 0 0 0 0 31) from (by rw [hw]; exact kR HZ5.out (blk_ne HZ5.out HN5.out (by decide)) _)); have HO6 := mK (show Kd.R Kd.string 9 w6 w.heap.size (fun _ => True) (.slice (some ae) 2 y1) [rf_r, rf_e] from (by rw [hw]; exact Kd.R_set HO5.out HN5.out (by decide) j _)); have HB6 := mK (show Below w.heap.size w w6 from (by rw [hw]; exact bS HB5.out HGE.out)); clear hw))
     go_roundg (2 - j)
     case measure => have h1 := HJ.out; have h2 := HJ2.out; omega
     case rel => exact ⟨j + 1, ns.set j x1, (by first | rfl | exact congrArg _ hw1 | (rw [hw1]; rfl)), ⟨by have h1 := HJ.out; have h2 := HJ2.out; exact ⟨by omega, by omega, by rw [List.length_set]; exact h1.2.2⟩⟩, HG2, HN6, HI6, HZ6, HO6, HB6⟩
   ·
    have hjl : j = 2 := by have := HJ.out; omega
    have hg := HGo.out
    rw [List.drop_eq_nil_of_le (by rw [hjl]; exact Nat.le_refl _)] at hg
    unfold rf_go at hg
    injection hg with hg
    subst hg
    have hq2 := HQ.out
    replace hq2 := oB hq2
    obtain ⟨ec, hE, hq2⟩ := hq2
    simp only [Option.some.injEq, Prod.mk.injEq] at hq2
    have hn4 := HJ.out.2.2
    obtain ⟨n0, n1, n2, n3, rfl⟩ : ∃ n0 n1 n2 n3, ns = [n0, n1, n2, n3] := rf_four hn4
    replace hE : pascalineref02_Check.f k op n0 0 0 n1 = some ec := hE
    obtain ⟨rfl, q1, q2, q3, q4, rfl⟩ := hq2
    replace q1 : n0 = r2 := q1
    replace q2 : 0 = r3 := q2
    replace q3 : 0 = r4 := q3
    replace q4 : n1 = r5 := q4
    subst q1 q2 q3 q4
    have HE := mK hE
    subst hjl
    replace HN2 := mK (show wr.heap[Wa1.heap.size]? = some (.cells #[.int .i64 n0, .int .i64 n1, .int .i64 n2, .int .i64 n3] 71 (0, 0)) from HN2.out)
    obtain ⟨cn0, cn1, cn2, cn3, -, -, -, -⟩ := cf4 HN2.out
    clear hE hn4 hj
    go_upto_region 40 with (first | ((with_reducible refine gate_store (t := 3) (p := 104) rfl ?_); refine store_event (t := 3) (p := 104) (v := ?vt1) (w1 := (wr.setCell ⟨w.heap.size + 1, 1, none⟩ (.int .i64 n0))) ?hg ?ho ?hn ?hr ?_; (case ho => rfl); (case hg => rfl); (case hn => rfl); (case hr => (have hz5 := kF HI2.out 1; have hc5 : wr.cell? ⟨w.heap.size + 1, 1, none⟩ = some (.int .i64 0) := kC HI2.out 1; first | (go_simp; done) | (go_simp; rfl))); intro wf0 hw; obtain ⟨a1, a2, a3, a4⟩ := rf_st HI2.out HN2.out HZ2.out HB2.out (by decide) 1 (.int .i64 n0) (cs' := #[.int .i64 op, .int .i64 n0, .int .i64 0, .int .i64 0, .int .i64 0]) rfl; rw [← hw] at a1 a2 a3 a4; have HI20 := mK a1; have HN20 := mK a2; have HZ20 := mK a3; have HB20 := mK a4; clear a1 a2 a3 a4; have ck0 : wf0.cell? ⟨Wa1.heap.size, 1, none⟩ = some (.int .i64 n1) := kC HN20.out 1; clear hw) | ((with_reducible refine gate_store (t := 3) (p := 125) rfl ?_); refine store_event (t := 3) (p := 125) (v := ?vt4) (w1 := (wf0.setCell ⟨w.heap.size + 1, 4, none⟩ (.int .i64 n1))) ?hg ?ho ?hn ?hr ?_; (case ho => rfl); (case hg => rfl); (case hn => rfl); (case hr => (have hz5 := kF HI20.out 4; have hc5 : wf0.cell? ⟨w.heap.size + 1, 4, none⟩ = some (.int .i64 0) := kC HI20.out 4; first | (go_simp; done) | (go_simp; rfl))); intro wf1 hw; obtain ⟨a1, a2, a3, a4⟩ := rf_st HI20.out HN20.out HZ20.out HB20.out (by decide) 4 (.int .i64 n1) (cs' := #[.int .i64 op, .int .i64 n0, .int .i64 0, .int .i64 0, .int .i64 n1]) rfl; rw [← hw] at a1 a2 a3 a4; have HI21 := mK a1; have HN21 := mK a2; have HZ21 := mK a3; have HB21 := mK a4; clear a1 a2 a3 a4; have ck1 : wf1.cell? ⟨Wa1.heap.size, 2, none⟩ = some (.int .i64 n2) := kC HN21.out 2; clear hw))
    have hzb := HZ21.out; have hib := HI21.out; obtain ⟨ci0, ci1, ci2, ci3, ci4, -⟩ := rf_cf HI21.out
    go_region_held3 (fun w' => w'.cell? ⟨w.heap.size + 1, 0, none⟩ = some (.int .i64 op) ∧ w'.cell? ⟨w.heap.size + 1, 1, none⟩ = some (.int .i64 n0) ∧ w'.cell? ⟨w.heap.size + 1, 2, none⟩ = some (.int .i64 0) ∧ w'.cell? ⟨w.heap.size + 1, 3, none⟩ = some (.int .i64 0) ∧ w'.cell? ⟨w.heap.size + 1, 4, none⟩ = some (.int .i64 n1)) (first | with_reducible exact ⟨gi0, gi1, gi2, gi3, gi4⟩ | with_reducible exact rf_far5 HI5.out _ _ _ _ _ | exact ⟨ci0, ci1, ci2, ci3, ci4⟩) (first | (go_at_call 25; ((with_reducible refine (pascalineref02_Check.calls k _ _ _ _ _ ec _ HE.out).mono ?_)); rintro e w5 ⟨rfl, hb⟩; have hS := bP (below_drew (Below.refl wf1.heap.size wf1)) hb; have HZ5 := mK (kB HZ21.out hS); have HI5 := mK (kB HI21.out hS); have HB5 := mK (bP HB21.out hS); have hzb5 := HZ5.out; obtain ⟨gc0, gc1, gc2, gc3, gc4, gz0, gz1, gz2, gz3, gz4⟩ := rf_cf HZ5.out; obtain ⟨gi0, gi1, gi2, gi3, gi4, -⟩ := rf_cf HI5.out; clear hb hS))
    go_wp2
    (try rw [Exit.noGoto_ret])
    refine bodyPost_ret (results_list (rs := [.cell 4 31, .tmp 5]) rfl (by simp) (.cell w.heap.size 31 #[.int .i64 op, .int .i64 n0, .int .i64 0, .int .i64 0, .int .i64 n1] (0, 0) _ rfl (rf_five HZ5.out _ _ _ _ _) Try.underlying31 rfl (by kernel_rfl) (.tmp .nil))) rfl ?_
    exact ⟨rfl, rf_fiveb HB5.out (Nat.le_refl _) _ _ _ _ _⟩
 ·
  rw [if_neg (show ¬ l1.length = ([rf_r, rf_e]).length from hl)] at HH1
  cases HH1
  have hlb : ((l1.length : Int) != 2) = true := bne_iff_ne.mpr (by omega)
  have hzb := HZ.out; have hib := HI.out; obtain ⟨cz0, cz1, cz2, cz3, cz4, fz0, fz1, fz2, fz3, fz4⟩ := rf_cf HZ.out; obtain ⟨ci0, ci1, ci2, ci3, ci4, fi0, fi1, fi2, fi3, fi4⟩ := rf_cf HI.out
  clear hl
  go_wp2
  refine bodyPost_ret (results_list (rs := [.cell 4 31, .tmp 5]) rfl (by simp) (.cell w.heap.size 31 #[.int .i64 op, .int .i64 0, .int .i64 0, .int .i64 0, .int .i64 0] (0, 0) _ rfl (rf_five HZ.out _ _ _ _ _) Try.underlying31 rfl (by kernel_rfl) (.tmp .nil))) rfl ?_
  exact ⟨rfl, rf_fiveb HB.out (Nat.le_refl _) _ _ _ _ _⟩
set_option maxHeartbeats 4000000 in
set_option maxRecDepth 100000 in
theorem rf_caseABI (k : Nat) (op s : Int) (A1 : Option Addr) (c1 : Nat) (l1 : List ByteArray) (r1 r2 r3 r4 r5 : Int) (r6 : Bool) (w : World) (hr1 : Kd.C Kd.string w A1 l1.length l1) (hc1 : l1.length ≤ c1)
 (HS : Aside0 (pascalineref02_Shape.f k op = some s)) (hA : Aside0 (pascalineref02_has.f s = some (true, true, false))) (hn : decide (s < 0) = false) (b0 : (s != 0) = true) (b5 : (s != 5) = true) (b6 : (s != 6) = true) (b26 : (op == 26) = false) (b27 : (op != 26) = true)
 (HH : Aside0 (rf_rest k op l1 [rf_r, rf_r, rf_e] (fun ns => (rf_nd ns 0, rf_nd ns 1, 0, rf_nd ns 2)) = some (r1, r2, r3, r4, r5, r6))) :
 Calls Try.prog 23 #[.int .i64 op, .slice A1 l1.length c1] w fun e w' => e = .returned (.tuple #[.agg #[.int .i64 r1, .int .i64 r2, .int .i64 r3, .int .i64 r4, .int .i64 r5], .bool r6]) ∧ Below w.heap.size w w' := by
 have HR1 := mK hr1
 clear hr1
 go_enter Try.func23, Try.ntmps23
 go_upto_region 7 with (first | (go_at_call 14; ((with_reducible refine (pascalineref02_Shape.calls k op s _ HS.out).mono ?_)); rintro e w' ⟨rfl, ⟨nd, rfl⟩⟩) | (go_at_call 30; ((with_reducible refine (pascalineref02_has.calls s true true false _ hA.out).mono ?_)); rintro e w' ⟨rfl, ⟨nd2, rfl⟩⟩))
 obtain ⟨g0, g1, g2, g3⟩ := rf_start w (.cells #[.int .i64 0, .int .i64 0, .int .i64 0, .int .i64 0, .int .i64 0] 31) (.cells #[.int .i64 op, .int .i64 0, .int .i64 0, .int .i64 0, .int .i64 0] 31) (nd + nd2)
 obtain ⟨W0, hW0⟩ : ∃ W0, ((((w.alloc (.cells #[.int .i64 0, .int .i64 0, .int .i64 0, .int .i64 0, .int .i64 0] 31)).alloc (.cells #[.int .i64 op, .int .i64 0, .int .i64 0, .int .i64 0, .int .i64 0] 31)).drewN (nd + nd2)).alloc (.cells #[] 9)) = W0 := ⟨_, rfl⟩
 rw [hW0] at g0 g1 g2 g3 ⊢
 have HZ := mK g0; have HI := mK g1; have HB := mK g2; have HO := mK g3
 clear g0 g1 g2 g3 hW0
 go_upto_region 18 with (first | ((with_reducible refine gate_builtin (b := .append) (xs := #[.tmp 33, .tmp 34]) rfl ?_); at_builtin; refine Kd.R_append Kd.string (w0 := w) w.heap.size rfl (.tmp 33) (.tmp 34) 45 9 (.string ⟨#[]⟩) 16 rfl Try.underlying45 info9 rfl (by decide) (by omega) (.slice (some ⟨w.heap.size + 1 + 1, 0, none⟩) 0 0) ([] : List ByteArray) (⟨#[114]⟩ : ByteArray) [.string (⟨#[114]⟩ : ByteArray)] (fun _ => True) (fun _ => False) rfl rfl ?aP0 (fun _ hk => hk.elim) ?aF0 ?aO0 ?aB0 ?aS0 ?aL0 ?_; (case aP0 => exact rfl); (case aB0 => exact (by repeat (first | (with_reducible first | exact HB.out | apply bA | apply bN | apply bD) | exact HB.out))); (case aF0 => exact (fun _ _ => trivial)); (case aO0 => exact (by (with_reducible repeat (first | apply Kd.R_alloc | apply Kd.R_drewN | apply Kd.R_drew)); exact HO.out)); (case aS0 => exact (bZ (by repeat (first | (with_reducible first | exact HB.out | apply bA | apply bN | apply bD) | exact HB.out)))); (case aL0 => (simp only [List.length_cons, List.length_nil]; omega)); intro v0 Wa0 ho hb hg hat; have n0_ := mK (blk_grown (g := w.heap.size + 1) (o := .cells #[.int .i64 op, .int .i64 0, .int .i64 0, .int .i64 0, .int .i64 0] 31) HI.out hg (Kd.R_ne HO.out HI.out (by decide))); have n1_ := mK (blk_grown (g := w.heap.size) (o := .cells #[.int .i64 0, .int .i64 0, .int .i64 0, .int .i64 0, .int .i64 0] 31) HZ.out hg (Kd.R_ne HO.out HZ.out (by decide))); obtain ⟨X0, y0, e1, hy0, -⟩ := Kd.R_reads ho; replace e1 : v0 = .slice X0 1 y0 := e1; subst e1; have n2_ := mK hb; have n3_ := mK (show Kd.R Kd.string 9 Wa0 w.heap.size (fun _ => True) (.slice X0 1 y0) [(⟨#[114]⟩ : ByteArray)] from ho); clear HI HZ HB HO; have HI := n0_; have HZ := n1_; have HB := n2_; have HO := n3_; clear n0_ n1_ n2_ n3_ hg hat ho hb hy0) | ((with_reducible refine gate_builtin (b := .append) (xs := #[.tmp 49, .tmp 50]) rfl ?_); at_builtin; refine Kd.R_append Kd.string (w0 := w) w.heap.size rfl (.tmp 49) (.tmp 50) 45 9 (.string ⟨#[]⟩) 16 rfl Try.underlying45 info9 rfl (by decide) (by omega) (.slice X0 1 y0) [(⟨#[114]⟩ : ByteArray)] (⟨#[114]⟩ : ByteArray) [.string (⟨#[114]⟩ : ByteArray)] (fun _ => True) (fun _ => False) rfl rfl ?aP1 (fun _ hk => hk.elim) ?aF1 ?aO1 ?aB1 ?aS1 ?aL1 ?_; (case aP1 => exact rfl); (case aB1 => exact (by repeat (first | (with_reducible first | exact HB.out | apply bA | apply bN | apply bD) | exact HB.out))); (case aF1 => exact (fun _ _ => trivial)); (case aO1 => exact (by (with_reducible repeat (first | apply Kd.R_alloc | apply Kd.R_drewN | apply Kd.R_drew)); exact HO.out)); (case aS1 => exact (bZ (by repeat (first | (with_reducible first | exact HB.out | apply bA | apply bN | apply bD) | exact HB.out)))); (case aL1 => (simp only [List.length_cons, List.length_nil]; omega)); intro v1 Wa1 ho hb hg hat; have n0_ := mK (blk_grown (g := w.heap.size + 1) (o := .cells #[.int .i64 op, .int .i64 0, .int .i64 0, .int .i64 0, .int .i64 0] 31) HI.out hg (Kd.R_ne HO.out HI.out (by decide))); have n1_ := mK (blk_grown (g := w.heap.size) (o := .cells #[.int .i64 0, .int .i64 0, .int .i64 0, .int .i64 0, .int .i64 0] 31) HZ.out hg (Kd.R_ne HO.out HZ.out (by decide))); obtain ⟨X1, y1, e1, hy1, -⟩ := Kd.R_reads ho; replace e1 : v1 = .slice X1 2 y1 := e1; subst e1; have n2_ := mK hb; have n3_ := mK (show Kd.R Kd.string 9 Wa1 w.heap.size (fun _ => True) (.slice X1 2 y1) [(⟨#[114]⟩ : ByteArray), (⟨#[114]⟩ : ByteArray)] from ho); clear HI HZ HB HO; have HI := n0_; have HZ := n1_; have HB := n2_; have HO := n3_; clear n0_ n1_ n2_ n3_ hg hat ho hb hy1) | ((with_reducible refine gate_builtin (b := .append) (xs := #[.tmp 67, .tmp 68]) rfl ?_); at_builtin; refine Kd.R_append Kd.string (w0 := w) w.heap.size rfl (.tmp 67) (.tmp 68) 45 9 (.string ⟨#[]⟩) 16 rfl Try.underlying45 info9 rfl (by decide) (by omega) (.slice X1 2 y1) [(⟨#[114]⟩ : ByteArray), (⟨#[114]⟩ : ByteArray)] (⟨#[]⟩ : ByteArray) [.string (⟨#[]⟩ : ByteArray)] (fun _ => True) (fun _ => False) rfl rfl ?aP2 (fun _ hk => hk.elim) ?aF2 ?aO2 ?aB2 ?aS2 ?aL2 ?_; (case aP2 => exact rfl); (case aB2 => exact (by repeat (first | (with_reducible first | exact HB.out | apply bA | apply bN | apply bD) | exact HB.out))); (case aF2 => exact (fun _ _ => trivial)); (case aO2 => exact (by (with_reducible repeat (first | apply Kd.R_alloc | apply Kd.R_drewN | apply Kd.R_drew)); exact HO.out)); (case aS2 => exact (bZ (by repeat (first | (with_reducible first | exact HB.out | apply bA | apply bN | apply bD) | exact HB.out)))); (case aL2 => (simp only [List.length_cons, List.length_nil]; omega)); intro v2 Wa2 ho hb hg hat; have n0_ := mK (blk_grown (g := w.heap.size + 1) (o := .cells #[.int .i64 op, .int .i64 0, .int .i64 0, .int .i64 0, .int .i64 0] 31) HI.out hg (Kd.R_ne HO.out HI.out (by decide))); have n1_ := mK (blk_grown (g := w.heap.size) (o := .cells #[.int .i64 0, .int .i64 0, .int .i64 0, .int .i64 0, .int .i64 0] 31) HZ.out hg (Kd.R_ne HO.out HZ.out (by decide))); obtain ⟨X2, y2, e1, hy2, -⟩ := Kd.R_reads ho; replace e1 : v2 = .slice X2 3 y2 := e1; subst e1; have n2_ := mK hb; have n3_ := mK (show Kd.R Kd.string 9 Wa2 w.heap.size (fun _ => True) (.slice X2 3 y2) [(⟨#[114]⟩ : ByteArray), (⟨#[114]⟩ : ByteArray), (⟨#[]⟩ : ByteArray)] from ho); clear HI HZ HB HO; have HI := n0_; have HZ := n1_; have HB := n2_; have HO := n3_; clear n0_ n1_ n2_ n3_ hg hat ho hb hy2))
 have HH1 := HH.out
 clear HH
 unfold rf_rest at HH1
 by_cases hl : l1.length = 3
 ·
  rw [if_pos (show l1.length = ([rf_r, rf_r, rf_e]).length from hl)] at HH1
  replace HH1 := oB HH1
  obtain ⟨q, hq, HH1⟩ := HH1
  have HQ := mK HH1; have HL := mK hl
  have hlb : ((l1.length : Int) != 3) = false := by rw [hl]; rfl
  clear HH1 hl
  have HGE := mK (bZ HB.out)
  go_wp2
  go_loopg [14] (4) (fun kx v14 wr => ∃ (j : Nat) (ns : List Int), v14 = .int .i64 j ∧ Aside0 (j + kx = 4 ∧ j ≤ 3 ∧ ns.length = 4) ∧ Aside0 (rf_go k l1 (List.drop j [rf_r, rf_r, rf_e]) j ns = some q) ∧ Aside0 (wr.heap[Wa2.heap.size]? = some (.cells (ns.map (fun n => Value.int .i64 n)).toArray 71 (0, 0))) ∧ Aside0 (wr.heap[w.heap.size + 1]? = some (o5 op 0 0 0 0 31)) ∧ Aside0 (wr.heap[w.heap.size]? = some (o5 0 0 0 0 0 31)) ∧ Aside0 (Kd.R Kd.string 9 wr w.heap.size (fun _ => True) (.slice X2 3 y2) [rf_r, rf_r, rf_e]) ∧ Aside0 (Below w.heap.size w wr))
  case atStart => exact ⟨0, [0, 0, 0, 0], rfl, ⟨⟨by omega, by omega, rfl⟩⟩, ⟨hq⟩, ⟨blk_new _ _⟩, ⟨kA HI.out _⟩, ⟨kA HZ.out _⟩, ⟨Kd.R_alloc HO.out _⟩, ⟨bA HB.out _⟩⟩
  case round =>
   obtain ⟨j, ns, rfl, HJ, HGo, HN2, HI2, HZ2, HO2, HB2⟩ := hrel
   by_cases hj : j < 3
   ·
    have hg := HGo.out
    have hjl : j < ([rf_r, rf_r, rf_e]).length := hj
    rw [List.drop_eq_getElem_cons hjl] at hg
    unfold rf_go at hg
    replace hg := oB hg
    obtain ⟨⟨x1, ok1⟩, hNu, hg⟩ := hg
    obtain ⟨ad, e, hx⟩ := Kd.at_string HR1.out (j : Int) (by omega) (by have := HL.out; omega)
    cases e
    rw [Int.toNat_natCast] at hx
    obtain ⟨ae, e, hy⟩ := Kd.at_string (Kd.R_reads' HO2.out).2.2 (j : Int) (by omega) (by show (j : Int) < ((3 : Nat) : Int); omega)
    cases e
    rw [Int.toNat_natCast, rdOf_at_ _ _ hjl] at hy
    have hx2 := kW HB2.out hx
    have p1 : (0 ≤ (j : Int)) = True := eq_true (by omega)
    have p2 : ((j : Int) < 3) = True := eq_true (by omega)
    have p3 : ((j : Int) < (l1.length : Int)) = True := eq_true (by have := HL.out; omega)
    have p4 : decide ((j : Int) < 3) = true := decide_eq_true (by omega)
    have p5 : decide (j < 3) = true := decide_eq_true hj
    have p6 : (j < 3) = True := eq_true hj
    have p7 : (j < l1.length) = True := eq_true (by have := HL.out; omega)
    have p8 : ((j : Int) < 4) = True := eq_true (by omega)
    have p9 : (j < 4) = True := eq_true (by omega)
    have hw1 : wrap64 ((j : Int) + 1) = ((j + 1 : Nat) : Int) := by unfold wrap64; omega
    generalize ([rf_r, rf_r, rf_e])[j] = hd at hNu hy
    generalize rdOf ByteArray.empty l1 (j : Int) = str at hNu hx hx2
    have HNu := mK hNu
    have HJ2 := mK hj
    have HX := mK (And.intro hy hx2)
    have HG3 := mK hg
    clear hNu hj hjl hx hg HGo
    have hs8 : 8 ≤ 8 := Nat.le_refl _
    clear hs8
    go_wp2
    go_region_held3 (fun w' => w'.cell? (ae.add j) = some (.string hd) ∧ w'.cell? (ad.add j) = some (.string str)) (first | with_reducible exact ⟨hy5, hx5⟩ | exact ⟨hy, hx2⟩) (first | (go_at_call 35; ((with_reducible refine (pascalineref02_number.calls k hd str x1 ok1 _ HNu.out).mono ?_)); rintro e w5 ⟨rfl, hb⟩; have hS := bP (below_drew (Below.refl wr.heap.size wr)) hb; have HN5 := mK (kB HN2.out hS); have HI5 := mK (kB HI2.out hS); have HZ5 := mK (kB HZ2.out hS); have HO5 := mK (Kd.R_below HO2.out hS); have HB5 := mK (bP HB2.out hS); have hy5 := kW hS HX.out.1; have hx5 := kW hS HX.out.2; clear hb hS))
    cases ok1 with
    | false =>
     have hg := HG3.out
     rw [if_neg (by simp)] at hg
     injection hg with hg
     subst hg
     have hq2 := HQ.out
     cases hq2
     have hzb := HZ5.out; have hib := HI5.out; obtain ⟨cz0, cz1, cz2, cz3, cz4, fz0, fz1, fz2, fz3, fz4⟩ := rf_cf HZ5.out; obtain ⟨ci0, ci1, ci2, ci3, ci4, fi0, fi1, fi2, fi3, fi4⟩ := rf_cf HI5.out
     go_wp2
     (try rw [Exit.noGoto_ret])
     refine bodyPost_ret (results_list (rs := [.cell 4 31, .tmp 5]) rfl (by simp) (.cell w.heap.size 31 #[.int .i64 op, .int .i64 0, .int .i64 0, .int .i64 0, .int .i64 0] (0, 0) _ rfl (rf_five HZ5.out _ _ _ _ _) Try.underlying31 rfl (by kernel_rfl) (.tmp .nil))) rfl ?_
     exact ⟨rfl, rf_fiveb HB5.out (Nat.le_refl _) _ _ _ _ _⟩
    | true =>
     have hg := HG3.out
     rw [if_pos rfl] at hg
     have HG2 := mK hg
     clear hg HG3
     have hns : j < ns.length := by have := HJ.out; have := HJ2.out; omega
     have HNS := mK hns
     clear hns
     go_wp2_with (first | ((with_reducible refine gate_store (t := 3) (p := 99) rfl ?_); refine store_event (t := 3) (p := 99) (v := ?vs1) (w1 := (w5.setCell ⟨Wa2.heap.size, j, none⟩ (.int .i64 x1))) ?hg ?ho ?hn ?hr ?_; (case ho => rfl); (case hg => rfl); (case hn => rfl); (case hr => (have hz5 := kF HN5.out j; have hc5 : w5.cell? ⟨Wa2.heap.size, j, none⟩ = some (.int .i64 (ns[j]'HNS.out)) := (kC HN5.out j).trans (by simp [HNS.out]); first | (go_simp; done) | (go_simp; rfl))); intro w6 hw; have HN6 := mK (show w6.heap[Wa2.heap.size]? = some (.cells ((ns.set j x1).map (fun n => Value.int .i64 n)).toArray 71 (0, 0)) from (by rw [hw]; exact kP HN5.out j _ (by rw [List.setIfInBounds_toArray, List.map_set]))); have HI6 := mK (show w6.heap[w.heap.size + 1]? = some (o5 op 0 0 0 0 31) from (by rw [hw]; exact kR HI5.out (blk_ne HI5.out HN5.out (by decide)) _)); have HZ6 := mK (show w6.heap[w.heap.size]? = some (o5 0 0 0 0 0 31) from (by rw [hw]; exact kR HZ5.out (blk_ne HZ5.out HN5.out (by decide)) _)); have HO6 := mK (show Kd.R Kd.string 9 w6 w.heap.size (fun _ => True) (.slice (some ae) 3 y2) [rf_r, rf_r, rf_e] from (by rw [hw]; exact Kd.R_set HO5.out HN5.out (by decide) j _)); have HB6 := mK (show Below w.heap.size w w6 from (by rw [hw]; exact bS HB5.out HGE.out)); clear hw))
     go_roundg (3 - j)
     case measure => have h1 := HJ.out; have h2 := HJ2.out; omega
     case rel => exact ⟨j + 1, ns.set j x1, (by first | rfl | exact congrArg _ hw1 | (rw [hw1]; rfl)), ⟨by have h1 := HJ.out; have h2 := HJ2.out; exact ⟨by omega, by omega, by rw [List.length_set]; exact h1.2.2⟩⟩, HG2, HN6, HI6, HZ6, HO6, HB6⟩
   ·
    have hjl : j = 3 := by have := HJ.out; omega
    have hg := HGo.out
    rw [List.drop_eq_nil_of_le (by rw [hjl]; exact Nat.le_refl _)] at hg
    unfold rf_go at hg
    injection hg with hg
    subst hg
    have hq2 := HQ.out
    replace hq2 := oB hq2
    obtain ⟨ec, hE, hq2⟩ := hq2
    simp only [Option.some.injEq, Prod.mk.injEq] at hq2
    have hn4 := HJ.out.2.2
    obtain ⟨n0, n1, n2, n3, rfl⟩ : ∃ n0 n1 n2 n3, ns = [n0, n1, n2, n3] := rf_four hn4
    replace hE : pascalineref02_Check.f k op n0 n1 0 n2 = some ec := hE
    obtain ⟨rfl, q1, q2, q3, q4, rfl⟩ := hq2
    replace q1 : n0 = r2 := q1
    replace q2 : n1 = r3 := q2
    replace q3 : 0 = r4 := q3
    replace q4 : n2 = r5 := q4
    subst q1 q2 q3 q4
    have HE := mK hE
    subst hjl
    replace HN2 := mK (show wr.heap[Wa2.heap.size]? = some (.cells #[.int .i64 n0, .int .i64 n1, .int .i64 n2, .int .i64 n3] 71 (0, 0)) from HN2.out)
    obtain ⟨cn0, cn1, cn2, cn3, -, -, -, -⟩ := cf4 HN2.out
    clear hE hn4 hj
    go_upto_region 40 with (first | ((with_reducible refine gate_store (t := 3) (p := 104) rfl ?_); refine store_event (t := 3) (p := 104) (v := ?vt1) (w1 := (wr.setCell ⟨w.heap.size + 1, 1, none⟩ (.int .i64 n0))) ?hg ?ho ?hn ?hr ?_; (case ho => rfl); (case hg => rfl); (case hn => rfl); (case hr => (have hz5 := kF HI2.out 1; have hc5 : wr.cell? ⟨w.heap.size + 1, 1, none⟩ = some (.int .i64 0) := kC HI2.out 1; first | (go_simp; done) | (go_simp; rfl))); intro wf0 hw; obtain ⟨a1, a2, a3, a4⟩ := rf_st HI2.out HN2.out HZ2.out HB2.out (by decide) 1 (.int .i64 n0) (cs' := #[.int .i64 op, .int .i64 n0, .int .i64 0, .int .i64 0, .int .i64 0]) rfl; rw [← hw] at a1 a2 a3 a4; have HI20 := mK a1; have HN20 := mK a2; have HZ20 := mK a3; have HB20 := mK a4; clear a1 a2 a3 a4; have ck0 : wf0.cell? ⟨Wa2.heap.size, 1, none⟩ = some (.int .i64 n1) := kC HN20.out 1; clear hw) | ((with_reducible refine gate_store (t := 3) (p := 111) rfl ?_); refine store_event (t := 3) (p := 111) (v := ?vt2) (w1 := (wf0.setCell ⟨w.heap.size + 1, 2, none⟩ (.int .i64 n1))) ?hg ?ho ?hn ?hr ?_; (case ho => rfl); (case hg => rfl); (case hn => rfl); (case hr => (have hz5 := kF HI20.out 2; have hc5 : wf0.cell? ⟨w.heap.size + 1, 2, none⟩ = some (.int .i64 0) := kC HI20.out 2; first | (go_simp; done) | (go_simp; rfl))); intro wf1 hw; obtain ⟨a1, a2, a3, a4⟩ := rf_st HI20.out HN20.out HZ20.out HB20.out (by decide) 2 (.int .i64 n1) (cs' := #[.int .i64 op, .int .i64 n0, .int .i64 n1, .int .i64 0, .int .i64 0]) rfl; rw [← hw] at a1 a2 a3 a4; have HI21 := mK a1; have HN21 := mK a2; have HZ21 := mK a3; have HB21 := mK a4; clear a1 a2 a3 a4; have ck1 : wf1.cell? ⟨Wa2.heap.size, 2, none⟩ = some (.int .i64 n2) := kC HN21.out 2; clear hw) | ((with_reducible refine gate_store (t := 3) (p := 125) rfl ?_); refine store_event (t := 3) (p := 125) (v := ?vt4) (w1 := (wf1.setCell ⟨w.heap.size + 1, 4, none⟩ (.int .i64 n2))) ?hg ?ho ?hn ?hr ?_; (case ho => rfl); (case hg => rfl); (case hn => rfl); (case hr => (have hz5 := kF HI21.out 4; have hc5 : wf1.cell? ⟨w.heap.size + 1, 4, none⟩ = some (.int .i64 0) := kC HI21.out 4; first | (go_simp; done) | (go_simp; rfl))); intro wf2 hw; obtain ⟨a1, a2, a3, a4⟩ := rf_st HI21.out HN21.out HZ21.out HB21.out (by decide) 4 (.int .i64 n2) (cs' := #[.int .i64 op, .int .i64 n0, .int .i64 n1, .int .i64 0, .int .i64 n2]) rfl; rw [← hw] at a1 a2 a3 a4; have HI22 := mK a1; have HN22 := mK a2; have HZ22 := mK a3; have HB22 := mK a4; clear a1 a2 a3 a4; have ck2 : wf2.cell? ⟨Wa2.heap.size, 3, none⟩ = some (.int .i64 n3) := kC HN22.out 3; clear hw))
    have hzb := HZ22.out; have hib := HI22.out; obtain ⟨ci0, ci1, ci2, ci3, ci4, -⟩ := rf_cf HI22.out
    go_region_held3 (fun w' => w'.cell? ⟨w.heap.size + 1, 0, none⟩ = some (.int .i64 op) ∧ w'.cell? ⟨w.heap.size + 1, 1, none⟩ = some (.int .i64 n0) ∧ w'.cell? ⟨w.heap.size + 1, 2, none⟩ = some (.int .i64 n1) ∧ w'.cell? ⟨w.heap.size + 1, 3, none⟩ = some (.int .i64 0) ∧ w'.cell? ⟨w.heap.size + 1, 4, none⟩ = some (.int .i64 n2)) (first | with_reducible exact ⟨gi0, gi1, gi2, gi3, gi4⟩ | with_reducible exact rf_far5 HI5.out _ _ _ _ _ | exact ⟨ci0, ci1, ci2, ci3, ci4⟩) (first | (go_at_call 25; ((with_reducible refine (pascalineref02_Check.calls k _ _ _ _ _ ec _ HE.out).mono ?_)); rintro e w5 ⟨rfl, hb⟩; have hS := bP (below_drew (Below.refl wf2.heap.size wf2)) hb; have HZ5 := mK (kB HZ22.out hS); have HI5 := mK (kB HI22.out hS); have HB5 := mK (bP HB22.out hS); have hzb5 := HZ5.out; obtain ⟨gc0, gc1, gc2, gc3, gc4, gz0, gz1, gz2, gz3, gz4⟩ := rf_cf HZ5.out; obtain ⟨gi0, gi1, gi2, gi3, gi4, -⟩ := rf_cf HI5.out; clear hb hS))
    go_wp2
    (try rw [Exit.noGoto_ret])
    refine bodyPost_ret (results_list (rs := [.cell 4 31, .tmp 5]) rfl (by simp) (.cell w.heap.size 31 #[.int .i64 op, .int .i64 n0, .int .i64 n1, .int .i64 0, .int .i64 n2] (0, 0) _ rfl (rf_five HZ5.out _ _ _ _ _) Try.underlying31 rfl (by kernel_rfl) (.tmp .nil))) rfl ?_
    exact ⟨rfl, rf_fiveb HB5.out (Nat.le_refl _) _ _ _ _ _⟩
 ·
  rw [if_neg (show ¬ l1.length = ([rf_r, rf_r, rf_e]).length from hl)] at HH1
  cases HH1
  have hlb : ((l1.length : Int) != 3) = true := bne_iff_ne.mpr (by omega)
  have hzb := HZ.out; have hib := HI.out; obtain ⟨cz0, cz1, cz2, cz3, cz4, fz0, fz1, fz2, fz3, fz4⟩ := rf_cf HZ.out; obtain ⟨ci0, ci1, ci2, ci3, ci4, fi0, fi1, fi2, fi3, fi4⟩ := rf_cf HI.out
  clear hl
  go_wp2
  refine bodyPost_ret (results_list (rs := [.cell 4 31, .tmp 5]) rfl (by simp) (.cell w.heap.size 31 #[.int .i64 op, .int .i64 0, .int .i64 0, .int .i64 0, .int .i64 0] (0, 0) _ rfl (rf_five HZ.out _ _ _ _ _) Try.underlying31 rfl (by kernel_rfl) (.tmp .nil))) rfl ?_
  exact ⟨rfl, rf_fiveb HB.out (Nat.le_refl _) _ _ _ _ _⟩
set_option maxHeartbeats 4000000 in
set_option maxRecDepth 100000 in
theorem rf_caseABJ (k : Nat) (op s : Int) (A1 : Option Addr) (c1 : Nat) (l1 : List ByteArray) (r1 r2 r3 r4 r5 : Int) (r6 : Bool) (w : World) (hr1 : Kd.C Kd.string w A1 l1.length l1) (hc1 : l1.length ≤ c1)
 (HS : Aside0 (pascalineref02_Shape.f k op = some s)) (hA : Aside0 (pascalineref02_has.f s = some (true, true, false))) (hn : decide (s < 0) = false) (b0 : (s != 0) = true) (b5 : (s != 5) = true) (b6 : (s != 6) = true) (b26 : (op == 26) = true) (b27 : (op != 26) = false)
 (HH : Aside0 (rf_rest k op l1 [rf_r, rf_e, rf_e] (fun ns => (rf_nd ns 0, rf_nd ns 1, 0, rf_nd ns 2)) = some (r1, r2, r3, r4, r5, r6))) :
 Calls Try.prog 23 #[.int .i64 op, .slice A1 l1.length c1] w fun e w' => e = .returned (.tuple #[.agg #[.int .i64 r1, .int .i64 r2, .int .i64 r3, .int .i64 r4, .int .i64 r5], .bool r6]) ∧ Below w.heap.size w w' := by
 have HR1 := mK hr1
 clear hr1
 go_enter Try.func23, Try.ntmps23
 go_upto_region 7 with (first | (go_at_call 14; ((with_reducible refine (pascalineref02_Shape.calls k op s _ HS.out).mono ?_)); rintro e w' ⟨rfl, ⟨nd, rfl⟩⟩) | (go_at_call 30; ((with_reducible refine (pascalineref02_has.calls s true true false _ hA.out).mono ?_)); rintro e w' ⟨rfl, ⟨nd2, rfl⟩⟩))
 obtain ⟨g0, g1, g2, g3⟩ := rf_start w (.cells #[.int .i64 0, .int .i64 0, .int .i64 0, .int .i64 0, .int .i64 0] 31) (.cells #[.int .i64 op, .int .i64 0, .int .i64 0, .int .i64 0, .int .i64 0] 31) (nd + nd2)
 obtain ⟨W0, hW0⟩ : ∃ W0, ((((w.alloc (.cells #[.int .i64 0, .int .i64 0, .int .i64 0, .int .i64 0, .int .i64 0] 31)).alloc (.cells #[.int .i64 op, .int .i64 0, .int .i64 0, .int .i64 0, .int .i64 0] 31)).drewN (nd + nd2)).alloc (.cells #[] 9)) = W0 := ⟨_, rfl⟩
 rw [hW0] at g0 g1 g2 g3 ⊢
 have HZ := mK g0; have HI := mK g1; have HB := mK g2; have HO := mK g3
 clear g0 g1 g2 g3 hW0
 go_upto_region 18 with (first | ((with_reducible refine gate_builtin (b := .append) (xs := #[.tmp 33, .tmp 34]) rfl ?_); at_builtin; refine Kd.R_append Kd.string (w0 := w) w.heap.size rfl (.tmp 33) (.tmp 34) 45 9 (.string ⟨#[]⟩) 16 rfl Try.underlying45 info9 rfl (by decide) (by omega) (.slice (some ⟨w.heap.size + 1 + 1, 0, none⟩) 0 0) ([] : List ByteArray) (⟨#[114]⟩ : ByteArray) [.string (⟨#[114]⟩ : ByteArray)] (fun _ => True) (fun _ => False) rfl rfl ?aP0 (fun _ hk => hk.elim) ?aF0 ?aO0 ?aB0 ?aS0 ?aL0 ?_; (case aP0 => exact rfl); (case aB0 => exact (by repeat (first | (with_reducible first | exact HB.out | apply bA | apply bN | apply bD) | exact HB.out))); (case aF0 => exact (fun _ _ => trivial)); (case aO0 => exact (by (with_reducible repeat (first | apply Kd.R_alloc | apply Kd.R_drewN | apply Kd.R_drew)); exact HO.out)); (case aS0 => exact (bZ (by repeat (first | (with_reducible first | exact HB.out | apply bA | apply bN | apply bD) | exact HB.out)))); (case aL0 => (simp only [List.length_cons, List.length_nil]; omega)); intro v0 Wa0 ho hb hg hat; have n0_ := mK (blk_grown (g := w.heap.size + 1) (o := .cells #[.int .i64 op, .int .i64 0, .int .i64 0, .int .i64 0, .int .i64 0] 31) HI.out hg (Kd.R_ne HO.out HI.out (by decide))); have n1_ := mK (blk_grown (g := w.heap.size) (o := .cells #[.int .i64 0, .int .i64 0, .int .i64 0, .int .i64 0, .int .i64 0] 31) HZ.out hg (Kd.R_ne HO.out HZ.out (by decide))); obtain ⟨X0, y0, e1, hy0, -⟩ := Kd.R_reads ho; replace e1 : v0 = .slice X0 1 y0 := e1; subst e1; have n2_ := mK hb; have n3_ := mK (show Kd.R Kd.string 9 Wa0 w.heap.size (fun _ => True) (.slice X0 1 y0) [(⟨#[114]⟩ : ByteArray)] from ho); clear HI HZ HB HO; have HI := n0_; have HZ := n1_; have HB := n2_; have HO := n3_; clear n0_ n1_ n2_ n3_ hg hat ho hb hy0) | ((with_reducible refine gate_builtin (b := .append) (xs := #[.tmp 41, .tmp 42]) rfl ?_); at_builtin; refine Kd.R_append Kd.string (w0 := w) w.heap.size rfl (.tmp 41) (.tmp 42) 45 9 (.string ⟨#[]⟩) 16 rfl Try.underlying45 info9 rfl (by decide) (by omega) (.slice X0 1 y0) [(⟨#[114]⟩ : ByteArray)] (⟨#[]⟩ : ByteArray) [.string (⟨#[]⟩ : ByteArray)] (fun _ => True) (fun _ => False) rfl rfl ?aP1 (fun _ hk => hk.elim) ?aF1 ?aO1 ?aB1 ?aS1 ?aL1 ?_; (case aP1 => exact rfl); (case aB1 => exact (by repeat (first | (with_reducible first | exact HB.out | apply bA | apply bN | apply bD) | exact HB.out))); (case aF1 => exact (fun _ _ => trivial)); (case aO1 => exact (by (with_reducible repeat (first | apply Kd.R_alloc | apply Kd.R_drewN | apply Kd.R_drew)); exact HO.out)); (case aS1 => exact (bZ (by repeat (first | (with_reducible first | exact HB.out | apply bA | apply bN | apply bD) | exact HB.out)))); (case aL1 => (simp only [List.length_cons, List.length_nil]; omega)); intro v1 Wa1 ho hb hg hat; have n0_ := mK (blk_grown (g := w.heap.size + 1) (o := .cells #[.int .i64 op, .int .i64 0, .int .i64 0, .int .i64 0, .int .i64 0] 31) HI.out hg (Kd.R_ne HO.out HI.out (by decide))); have n1_ := mK (blk_grown (g := w.heap.size) (o := .cells #[.int .i64 0, .int .i64 0, .int .i64 0, .int .i64 0, .int .i64 0] 31) HZ.out hg (Kd.R_ne HO.out HZ.out (by decide))); obtain ⟨X1, y1, e1, hy1, -⟩ := Kd.R_reads ho; replace e1 : v1 = .slice X1 2 y1 := e1; subst e1; have n2_ := mK hb; have n3_ := mK (show Kd.R Kd.string 9 Wa1 w.heap.size (fun _ => True) (.slice X1 2 y1) [(⟨#[114]⟩ : ByteArray), (⟨#[]⟩ : ByteArray)] from ho); clear HI HZ HB HO; have HI := n0_; have HZ := n1_; have HB := n2_; have HO := n3_; clear n0_ n1_ n2_ n3_ hg hat ho hb hy1) | ((with_reducible refine gate_builtin (b := .append) (xs := #[.tmp 67, .tmp 68]) rfl ?_); at_builtin; refine Kd.R_append Kd.string (w0 := w) w.heap.size rfl (.tmp 67) (.tmp 68) 45 9 (.string ⟨#[]⟩) 16 rfl Try.underlying45 info9 rfl (by decide) (by omega) (.slice X1 2 y1) [(⟨#[114]⟩ : ByteArray), (⟨#[]⟩ : ByteArray)] (⟨#[]⟩ : ByteArray) [.string (⟨#[]⟩ : ByteArray)] (fun _ => True) (fun _ => False) rfl rfl ?aP2 (fun _ hk => hk.elim) ?aF2 ?aO2 ?aB2 ?aS2 ?aL2 ?_; (case aP2 => exact rfl); (case aB2 => exact (by repeat (first | (with_reducible first | exact HB.out | apply bA | apply bN | apply bD) | exact HB.out))); (case aF2 => exact (fun _ _ => trivial)); (case aO2 => exact (by (with_reducible repeat (first | apply Kd.R_alloc | apply Kd.R_drewN | apply Kd.R_drew)); exact HO.out)); (case aS2 => exact (bZ (by repeat (first | (with_reducible first | exact HB.out | apply bA | apply bN | apply bD) | exact HB.out)))); (case aL2 => (simp only [List.length_cons, List.length_nil]; omega)); intro v2 Wa2 ho hb hg hat; have n0_ := mK (blk_grown (g := w.heap.size + 1) (o := .cells #[.int .i64 op, .int .i64 0, .int .i64 0, .int .i64 0, .int .i64 0] 31) HI.out hg (Kd.R_ne HO.out HI.out (by decide))); have n1_ := mK (blk_grown (g := w.heap.size) (o := .cells #[.int .i64 0, .int .i64 0, .int .i64 0, .int .i64 0, .int .i64 0] 31) HZ.out hg (Kd.R_ne HO.out HZ.out (by decide))); obtain ⟨X2, y2, e1, hy2, -⟩ := Kd.R_reads ho; replace e1 : v2 = .slice X2 3 y2 := e1; subst e1; have n2_ := mK hb; have n3_ := mK (show Kd.R Kd.string 9 Wa2 w.heap.size (fun _ => True) (.slice X2 3 y2) [(⟨#[114]⟩ : ByteArray), (⟨#[]⟩ : ByteArray), (⟨#[]⟩ : ByteArray)] from ho); clear HI HZ HB HO; have HI := n0_; have HZ := n1_; have HB := n2_; have HO := n3_; clear n0_ n1_ n2_ n3_ hg hat ho hb hy2))
 have HH1 := HH.out
 clear HH
 unfold rf_rest at HH1
 by_cases hl : l1.length = 3
 ·
  rw [if_pos (show l1.length = ([rf_r, rf_e, rf_e]).length from hl)] at HH1
  replace HH1 := oB HH1
  obtain ⟨q, hq, HH1⟩ := HH1
  have HQ := mK HH1; have HL := mK hl
  have hlb : ((l1.length : Int) != 3) = false := by rw [hl]; rfl
  clear HH1 hl
  have HGE := mK (bZ HB.out)
  go_wp2
  go_loopg [14] (4) (fun kx v14 wr => ∃ (j : Nat) (ns : List Int), v14 = .int .i64 j ∧ Aside0 (j + kx = 4 ∧ j ≤ 3 ∧ ns.length = 4) ∧ Aside0 (rf_go k l1 (List.drop j [rf_r, rf_e, rf_e]) j ns = some q) ∧ Aside0 (wr.heap[Wa2.heap.size]? = some (.cells (ns.map (fun n => Value.int .i64 n)).toArray 71 (0, 0))) ∧ Aside0 (wr.heap[w.heap.size + 1]? = some (o5 op 0 0 0 0 31)) ∧ Aside0 (wr.heap[w.heap.size]? = some (o5 0 0 0 0 0 31)) ∧ Aside0 (Kd.R Kd.string 9 wr w.heap.size (fun _ => True) (.slice X2 3 y2) [rf_r, rf_e, rf_e]) ∧ Aside0 (Below w.heap.size w wr))
  case atStart => exact ⟨0, [0, 0, 0, 0], rfl, ⟨⟨by omega, by omega, rfl⟩⟩, ⟨hq⟩, ⟨blk_new _ _⟩, ⟨kA HI.out _⟩, ⟨kA HZ.out _⟩, ⟨Kd.R_alloc HO.out _⟩, ⟨bA HB.out _⟩⟩
  case round =>
   obtain ⟨j, ns, rfl, HJ, HGo, HN2, HI2, HZ2, HO2, HB2⟩ := hrel
   by_cases hj : j < 3
   ·
    have hg := HGo.out
    have hjl : j < ([rf_r, rf_e, rf_e]).length := hj
    rw [List.drop_eq_getElem_cons hjl] at hg
    unfold rf_go at hg
    replace hg := oB hg
    obtain ⟨⟨x1, ok1⟩, hNu, hg⟩ := hg
    obtain ⟨ad, e, hx⟩ := Kd.at_string HR1.out (j : Int) (by omega) (by have := HL.out; omega)
    cases e
    rw [Int.toNat_natCast] at hx
    obtain ⟨ae, e, hy⟩ := Kd.at_string (Kd.R_reads' HO2.out).2.2 (j : Int) (by omega) (by show (j : Int) < ((3 : Nat) : Int); omega)
    cases e
    rw [Int.toNat_natCast, rdOf_at_ _ _ hjl] at hy
    have hx2 := kW HB2.out hx
    have p1 : (0 ≤ (j : Int)) = True := eq_true (by omega)
    have p2 : ((j : Int) < 3) = True := eq_true (by omega)
    have p3 : ((j : Int) < (l1.length : Int)) = True := eq_true (by have := HL.out; omega)
    have p4 : decide ((j : Int) < 3) = true := decide_eq_true (by omega)
    have p5 : decide (j < 3) = true := decide_eq_true hj
    have p6 : (j < 3) = True := eq_true hj
    have p7 : (j < l1.length) = True := eq_true (by have := HL.out; omega)
    have p8 : ((j : Int) < 4) = True := eq_true (by omega)
    have p9 : (j < 4) = True := eq_true (by omega)
    have hw1 : wrap64 ((j : Int) + 1) = ((j + 1 : Nat) : Int) := by unfold wrap64; omega
    generalize ([rf_r, rf_e, rf_e])[j] = hd at hNu hy
    generalize rdOf ByteArray.empty l1 (j : Int) = str at hNu hx hx2
    have HNu := mK hNu
    have HJ2 := mK hj
    have HX := mK (And.intro hy hx2)
    have HG3 := mK hg
    clear hNu hj hjl hx hg HGo
    have hs8 : 8 ≤ 8 := Nat.le_refl _
    clear hs8
    go_wp2
    go_region_held3 (fun w' => w'.cell? (ae.add j) = some (.string hd) ∧ w'.cell? (ad.add j) = some (.string str)) (first | with_reducible exact ⟨hy5, hx5⟩ | exact ⟨hy, hx2⟩) (first | (go_at_call 35; ((with_reducible refine (pascalineref02_number.calls k hd str x1 ok1 _ HNu.out).mono ?_)); rintro e w5 ⟨rfl, hb⟩; have hS := bP (below_drew (Below.refl wr.heap.size wr)) hb; have HN5 := mK (kB HN2.out hS); have HI5 := mK (kB HI2.out hS); have HZ5 := mK (kB HZ2.out hS); have HO5 := mK (Kd.R_below HO2.out hS); have HB5 := mK (bP HB2.out hS); have hy5 := kW hS HX.out.1; have hx5 := kW hS HX.out.2; clear hb hS))
    cases ok1 with
    | false =>
     have hg := HG3.out
     rw [if_neg (by simp)] at hg
     injection hg with hg
     subst hg
     have hq2 := HQ.out
     cases hq2
     have hzb := HZ5.out; have hib := HI5.out; obtain ⟨cz0, cz1, cz2, cz3, cz4, fz0, fz1, fz2, fz3, fz4⟩ := rf_cf HZ5.out; obtain ⟨ci0, ci1, ci2, ci3, ci4, fi0, fi1, fi2, fi3, fi4⟩ := rf_cf HI5.out
     go_wp2
     (try rw [Exit.noGoto_ret])
     refine bodyPost_ret (results_list (rs := [.cell 4 31, .tmp 5]) rfl (by simp) (.cell w.heap.size 31 #[.int .i64 op, .int .i64 0, .int .i64 0, .int .i64 0, .int .i64 0] (0, 0) _ rfl (rf_five HZ5.out _ _ _ _ _) Try.underlying31 rfl (by kernel_rfl) (.tmp .nil))) rfl ?_
     exact ⟨rfl, rf_fiveb HB5.out (Nat.le_refl _) _ _ _ _ _⟩
    | true =>
     have hg := HG3.out
     rw [if_pos rfl] at hg
     have HG2 := mK hg
     clear hg HG3
     have hns : j < ns.length := by have := HJ.out; have := HJ2.out; omega
     have HNS := mK hns
     clear hns
     go_wp2_with (first | ((with_reducible refine gate_store (t := 3) (p := 99) rfl ?_); refine store_event (t := 3) (p := 99) (v := ?vs1) (w1 := (w5.setCell ⟨Wa2.heap.size, j, none⟩ (.int .i64 x1))) ?hg ?ho ?hn ?hr ?_; (case ho => rfl); (case hg => rfl); (case hn => rfl); (case hr => (have hz5 := kF HN5.out j; have hc5 : w5.cell? ⟨Wa2.heap.size, j, none⟩ = some (.int .i64 (ns[j]'HNS.out)) := (kC HN5.out j).trans (by simp [HNS.out]); first | (go_simp; done) | (go_simp; rfl))); intro w6 hw; have HN6 := mK (show w6.heap[Wa2.heap.size]? = some (.cells ((ns.set j x1).map (fun n => Value.int .i64 n)).toArray 71 (0, 0)) from (by rw [hw]; exact kP HN5.out j _ (by rw [List.setIfInBounds_toArray, List.map_set]))); have HI6 := mK (show w6.heap[w.heap.size + 1]? = some (o5 op 0 0 0 0 31) from (by rw [hw]; exact kR HI5.out (blk_ne HI5.out HN5.out (by decide)) _)); have HZ6 := mK (show w6.heap[w.heap.size]? = some (o5 0 0 0 0 0 31) from (by rw [hw]; exact kR HZ5.out (blk_ne HZ5.out HN5.out (by decide)) _)); have HO6 := mK (show Kd.R Kd.string 9 w6 w.heap.size (fun _ => True) (.slice (some ae) 3 y2) [rf_r, rf_e, rf_e] from (by rw [hw]; exact Kd.R_set HO5.out HN5.out (by decide) j _)); have HB6 := mK (show Below w.heap.size w w6 from (by rw [hw]; exact bS HB5.out HGE.out)); clear hw))
     go_roundg (3 - j)
     case measure => have h1 := HJ.out; have h2 := HJ2.out; omega
     case rel => exact ⟨j + 1, ns.set j x1, (by first | rfl | exact congrArg _ hw1 | (rw [hw1]; rfl)), ⟨by have h1 := HJ.out; have h2 := HJ2.out; exact ⟨by omega, by omega, by rw [List.length_set]; exact h1.2.2⟩⟩, HG2, HN6, HI6, HZ6, HO6, HB6⟩
   ·
    have hjl : j = 3 := by have := HJ.out; omega
    have hg := HGo.out
    rw [List.drop_eq_nil_of_le (by rw [hjl]; exact Nat.le_refl _)] at hg
    unfold rf_go at hg
    injection hg with hg
    subst hg
    have hq2 := HQ.out
    replace hq2 := oB hq2
    obtain ⟨ec, hE, hq2⟩ := hq2
    simp only [Option.some.injEq, Prod.mk.injEq] at hq2
    have hn4 := HJ.out.2.2
    obtain ⟨n0, n1, n2, n3, rfl⟩ : ∃ n0 n1 n2 n3, ns = [n0, n1, n2, n3] := rf_four hn4
    replace hE : pascalineref02_Check.f k op n0 n1 0 n2 = some ec := hE
    obtain ⟨rfl, q1, q2, q3, q4, rfl⟩ := hq2
    replace q1 : n0 = r2 := q1
    replace q2 : n1 = r3 := q2
    replace q3 : 0 = r4 := q3
    replace q4 : n2 = r5 := q4
    subst q1 q2 q3 q4
    have HE := mK hE
    subst hjl
    replace HN2 := mK (show wr.heap[Wa2.heap.size]? = some (.cells #[.int .i64 n0, .int .i64 n1, .int .i64 n2, .int .i64 n3] 71 (0, 0)) from HN2.out)
    obtain ⟨cn0, cn1, cn2, cn3, -, -, -, -⟩ := cf4 HN2.out
    clear hE hn4 hj
    go_upto_region 40 with (first | ((with_reducible refine gate_store (t := 3) (p := 104) rfl ?_); refine store_event (t := 3) (p := 104) (v := ?vt1) (w1 := (wr.setCell ⟨w.heap.size + 1, 1, none⟩ (.int .i64 n0))) ?hg ?ho ?hn ?hr ?_; (case ho => rfl); (case hg => rfl); (case hn => rfl); (case hr => (have hz5 := kF HI2.out 1; have hc5 : wr.cell? ⟨w.heap.size + 1, 1, none⟩ = some (.int .i64 0) := kC HI2.out 1; first | (go_simp; done) | (go_simp; rfl))); intro wf0 hw; obtain ⟨a1, a2, a3, a4⟩ := rf_st HI2.out HN2.out HZ2.out HB2.out (by decide) 1 (.int .i64 n0) (cs' := #[.int .i64 op, .int .i64 n0, .int .i64 0, .int .i64 0, .int .i64 0]) rfl; rw [← hw] at a1 a2 a3 a4; have HI20 := mK a1; have HN20 := mK a2; have HZ20 := mK a3; have HB20 := mK a4; clear a1 a2 a3 a4; have ck0 : wf0.cell? ⟨Wa2.heap.size, 1, none⟩ = some (.int .i64 n1) := kC HN20.out 1; clear hw) | ((with_reducible refine gate_store (t := 3) (p := 111) rfl ?_); refine store_event (t := 3) (p := 111) (v := ?vt2) (w1 := (wf0.setCell ⟨w.heap.size + 1, 2, none⟩ (.int .i64 n1))) ?hg ?ho ?hn ?hr ?_; (case ho => rfl); (case hg => rfl); (case hn => rfl); (case hr => (have hz5 := kF HI20.out 2; have hc5 : wf0.cell? ⟨w.heap.size + 1, 2, none⟩ = some (.int .i64 0) := kC HI20.out 2; first | (go_simp; done) | (go_simp; rfl))); intro wf1 hw; obtain ⟨a1, a2, a3, a4⟩ := rf_st HI20.out HN20.out HZ20.out HB20.out (by decide) 2 (.int .i64 n1) (cs' := #[.int .i64 op, .int .i64 n0, .int .i64 n1, .int .i64 0, .int .i64 0]) rfl; rw [← hw] at a1 a2 a3 a4; have HI21 := mK a1; have HN21 := mK a2; have HZ21 := mK a3; have HB21 := mK a4; clear a1 a2 a3 a4; have ck1 : wf1.cell? ⟨Wa2.heap.size, 2, none⟩ = some (.int .i64 n2) := kC HN21.out 2; clear hw) | ((with_reducible refine gate_store (t := 3) (p := 125) rfl ?_); refine store_event (t := 3) (p := 125) (v := ?vt4) (w1 := (wf1.setCell ⟨w.heap.size + 1, 4, none⟩ (.int .i64 n2))) ?hg ?ho ?hn ?hr ?_; (case ho => rfl); (case hg => rfl); (case hn => rfl); (case hr => (have hz5 := kF HI21.out 4; have hc5 : wf1.cell? ⟨w.heap.size + 1, 4, none⟩ = some (.int .i64 0) := kC HI21.out 4; first | (go_simp; done) | (go_simp; rfl))); intro wf2 hw; obtain ⟨a1, a2, a3, a4⟩ := rf_st HI21.out HN21.out HZ21.out HB21.out (by decide) 4 (.int .i64 n2) (cs' := #[.int .i64 op, .int .i64 n0, .int .i64 n1, .int .i64 0, .int .i64 n2]) rfl; rw [← hw] at a1 a2 a3 a4; have HI22 := mK a1; have HN22 := mK a2; have HZ22 := mK a3; have HB22 := mK a4; clear a1 a2 a3 a4; have ck2 : wf2.cell? ⟨Wa2.heap.size, 3, none⟩ = some (.int .i64 n3) := kC HN22.out 3; clear hw))
    have hzb := HZ22.out; have hib := HI22.out; obtain ⟨ci0, ci1, ci2, ci3, ci4, -⟩ := rf_cf HI22.out
    go_region_held3 (fun w' => w'.cell? ⟨w.heap.size + 1, 0, none⟩ = some (.int .i64 op) ∧ w'.cell? ⟨w.heap.size + 1, 1, none⟩ = some (.int .i64 n0) ∧ w'.cell? ⟨w.heap.size + 1, 2, none⟩ = some (.int .i64 n1) ∧ w'.cell? ⟨w.heap.size + 1, 3, none⟩ = some (.int .i64 0) ∧ w'.cell? ⟨w.heap.size + 1, 4, none⟩ = some (.int .i64 n2)) (first | with_reducible exact ⟨gi0, gi1, gi2, gi3, gi4⟩ | with_reducible exact rf_far5 HI5.out _ _ _ _ _ | exact ⟨ci0, ci1, ci2, ci3, ci4⟩) (first | (go_at_call 25; ((with_reducible refine (pascalineref02_Check.calls k _ _ _ _ _ ec _ HE.out).mono ?_)); rintro e w5 ⟨rfl, hb⟩; have hS := bP (below_drew (Below.refl wf2.heap.size wf2)) hb; have HZ5 := mK (kB HZ22.out hS); have HI5 := mK (kB HI22.out hS); have HB5 := mK (bP HB22.out hS); have hzb5 := HZ5.out; obtain ⟨gc0, gc1, gc2, gc3, gc4, gz0, gz1, gz2, gz3, gz4⟩ := rf_cf HZ5.out; obtain ⟨gi0, gi1, gi2, gi3, gi4, -⟩ := rf_cf HI5.out; clear hb hS))
    go_wp2
    (try rw [Exit.noGoto_ret])
    refine bodyPost_ret (results_list (rs := [.cell 4 31, .tmp 5]) rfl (by simp) (.cell w.heap.size 31 #[.int .i64 op, .int .i64 n0, .int .i64 n1, .int .i64 0, .int .i64 n2] (0, 0) _ rfl (rf_five HZ5.out _ _ _ _ _) Try.underlying31 rfl (by kernel_rfl) (.tmp .nil))) rfl ?_
    exact ⟨rfl, rf_fiveb HB5.out (Nat.le_refl _) _ _ _ _ _⟩
 ·
  rw [if_neg (show ¬ l1.length = ([rf_r, rf_e, rf_e]).length from hl)] at HH1
  cases HH1
  have hlb : ((l1.length : Int) != 3) = true := bne_iff_ne.mpr (by omega)
  have hzb := HZ.out; have hib := HI.out; obtain ⟨cz0, cz1, cz2, cz3, cz4, fz0, fz1, fz2, fz3, fz4⟩ := rf_cf HZ.out; obtain ⟨ci0, ci1, ci2, ci3, ci4, fi0, fi1, fi2, fi3, fi4⟩ := rf_cf HI.out
  clear hl
  go_wp2
  refine bodyPost_ret (results_list (rs := [.cell 4 31, .tmp 5]) rfl (by simp) (.cell w.heap.size 31 #[.int .i64 op, .int .i64 0, .int .i64 0, .int .i64 0, .int .i64 0] (0, 0) _ rfl (rf_five HZ.out _ _ _ _ _) Try.underlying31 rfl (by kernel_rfl) (.tmp .nil))) rfl ?_
  exact ⟨rfl, rf_fiveb HB.out (Nat.le_refl _) _ _ _ _ _⟩
set_option maxHeartbeats 4000000 in
set_option maxRecDepth 100000 in
theorem rf_caseABC (k : Nat) (op s : Int) (A1 : Option Addr) (c1 : Nat) (l1 : List ByteArray) (r1 r2 r3 r4 r5 : Int) (r6 : Bool) (w : World) (hr1 : Kd.C Kd.string w A1 l1.length l1) (hc1 : l1.length ≤ c1)
 (HS : Aside0 (pascalineref02_Shape.f k op = some s)) (hA : Aside0 (pascalineref02_has.f s = some (true, true, true))) (hn : decide (s < 0) = false) (b0 : (s != 0) = true) (b5 : (s != 5) = false) (b26 : (op == 26) = false) (b27 : (op != 26) = true)
 (HH : Aside0 (rf_rest k op l1 [rf_r, rf_r, rf_r] (fun ns => (rf_nd ns 0, rf_nd ns 1, rf_nd ns 2, 0)) = some (r1, r2, r3, r4, r5, r6))) :
 Calls Try.prog 23 #[.int .i64 op, .slice A1 l1.length c1] w fun e w' => e = .returned (.tuple #[.agg #[.int .i64 r1, .int .i64 r2, .int .i64 r3, .int .i64 r4, .int .i64 r5], .bool r6]) ∧ Below w.heap.size w w' := by
 have HR1 := mK hr1
 clear hr1
 go_enter Try.func23, Try.ntmps23
 go_upto_region 7 with (first | (go_at_call 14; ((with_reducible refine (pascalineref02_Shape.calls k op s _ HS.out).mono ?_)); rintro e w' ⟨rfl, ⟨nd, rfl⟩⟩) | (go_at_call 30; ((with_reducible refine (pascalineref02_has.calls s true true true _ hA.out).mono ?_)); rintro e w' ⟨rfl, ⟨nd2, rfl⟩⟩))
 obtain ⟨g0, g1, g2, g3⟩ := rf_start w (.cells #[.int .i64 0, .int .i64 0, .int .i64 0, .int .i64 0, .int .i64 0] 31) (.cells #[.int .i64 op, .int .i64 0, .int .i64 0, .int .i64 0, .int .i64 0] 31) (nd + nd2)
 obtain ⟨W0, hW0⟩ : ∃ W0, ((((w.alloc (.cells #[.int .i64 0, .int .i64 0, .int .i64 0, .int .i64 0, .int .i64 0] 31)).alloc (.cells #[.int .i64 op, .int .i64 0, .int .i64 0, .int .i64 0, .int .i64 0] 31)).drewN (nd + nd2)).alloc (.cells #[] 9)) = W0 := ⟨_, rfl⟩
 rw [hW0] at g0 g1 g2 g3 ⊢
 have HZ := mK g0; have HI := mK g1; have HB := mK g2; have HO := mK g3
 clear g0 g1 g2 g3 hW0
 go_upto_region 18 with (first | ((with_reducible refine gate_builtin (b := .append) (xs := #[.tmp 33, .tmp 34]) rfl ?_); at_builtin; refine Kd.R_append Kd.string (w0 := w) w.heap.size rfl (.tmp 33) (.tmp 34) 45 9 (.string ⟨#[]⟩) 16 rfl Try.underlying45 info9 rfl (by decide) (by omega) (.slice (some ⟨w.heap.size + 1 + 1, 0, none⟩) 0 0) ([] : List ByteArray) (⟨#[114]⟩ : ByteArray) [.string (⟨#[114]⟩ : ByteArray)] (fun _ => True) (fun _ => False) rfl rfl ?aP0 (fun _ hk => hk.elim) ?aF0 ?aO0 ?aB0 ?aS0 ?aL0 ?_; (case aP0 => exact rfl); (case aB0 => exact (by repeat (first | (with_reducible first | exact HB.out | apply bA | apply bN | apply bD) | exact HB.out))); (case aF0 => exact (fun _ _ => trivial)); (case aO0 => exact (by (with_reducible repeat (first | apply Kd.R_alloc | apply Kd.R_drewN | apply Kd.R_drew)); exact HO.out)); (case aS0 => exact (bZ (by repeat (first | (with_reducible first | exact HB.out | apply bA | apply bN | apply bD) | exact HB.out)))); (case aL0 => (simp only [List.length_cons, List.length_nil]; omega)); intro v0 Wa0 ho hb hg hat; have n0_ := mK (blk_grown (g := w.heap.size + 1) (o := .cells #[.int .i64 op, .int .i64 0, .int .i64 0, .int .i64 0, .int .i64 0] 31) HI.out hg (Kd.R_ne HO.out HI.out (by decide))); have n1_ := mK (blk_grown (g := w.heap.size) (o := .cells #[.int .i64 0, .int .i64 0, .int .i64 0, .int .i64 0, .int .i64 0] 31) HZ.out hg (Kd.R_ne HO.out HZ.out (by decide))); obtain ⟨X0, y0, e1, hy0, -⟩ := Kd.R_reads ho; replace e1 : v0 = .slice X0 1 y0 := e1; subst e1; have n2_ := mK hb; have n3_ := mK (show Kd.R Kd.string 9 Wa0 w.heap.size (fun _ => True) (.slice X0 1 y0) [(⟨#[114]⟩ : ByteArray)] from ho); clear HI HZ HB HO; have HI := n0_; have HZ := n1_; have HB := n2_; have HO := n3_; clear n0_ n1_ n2_ n3_ hg hat ho hb hy0) | ((with_reducible refine gate_builtin (b := .append) (xs := #[.tmp 49, .tmp 50]) rfl ?_); at_builtin; refine Kd.R_append Kd.string (w0 := w) w.heap.size rfl (.tmp 49) (.tmp 50) 45 9 (.string ⟨#[]⟩) 16 rfl Try.underlying45 info9 rfl (by decide) (by omega) (.slice X0 1 y0) [(⟨#[114]⟩ : ByteArray)] (⟨#[114]⟩ : ByteArray) [.string (⟨#[114]⟩ : ByteArray)] (fun _ => True) (fun _ => False) rfl rfl ?aP1 (fun _ hk => hk.elim) ?aF1 ?aO1 ?aB1 ?aS1 ?aL1 ?_; (case aP1 => exact rfl); (case aB1 => exact (by repeat (first | (with_reducible first | exact HB.out | apply bA | apply bN | apply bD) | exact HB.out))); (case aF1 => exact (fun _ _ => trivial)); (case aO1 => exact (by (with_reducible repeat (first | apply Kd.R_alloc | apply Kd.R_drewN | apply Kd.R_drew)); exact HO.out)); (case aS1 => exact (bZ (by repeat (first | (with_reducible first | exact HB.out | apply bA | apply bN | apply bD) | exact HB.out)))); (case aL1 => (simp only [List.length_cons, List.length_nil]; omega)); intro v1 Wa1 ho hb hg hat; have n0_ := mK (blk_grown (g := w.heap.size + 1) (o := .cells #[.int .i64 op, .int .i64 0, .int .i64 0, .int .i64 0, .int .i64 0] 31) HI.out hg (Kd.R_ne HO.out HI.out (by decide))); have n1_ := mK (blk_grown (g := w.heap.size) (o := .cells #[.int .i64 0, .int .i64 0, .int .i64 0, .int .i64 0, .int .i64 0] 31) HZ.out hg (Kd.R_ne HO.out HZ.out (by decide))); obtain ⟨X1, y1, e1, hy1, -⟩ := Kd.R_reads ho; replace e1 : v1 = .slice X1 2 y1 := e1; subst e1; have n2_ := mK hb; have n3_ := mK (show Kd.R Kd.string 9 Wa1 w.heap.size (fun _ => True) (.slice X1 2 y1) [(⟨#[114]⟩ : ByteArray), (⟨#[114]⟩ : ByteArray)] from ho); clear HI HZ HB HO; have HI := n0_; have HZ := n1_; have HB := n2_; have HO := n3_; clear n0_ n1_ n2_ n3_ hg hat ho hb hy1) | ((with_reducible refine gate_builtin (b := .append) (xs := #[.tmp 53, .tmp 54]) rfl ?_); at_builtin; refine Kd.R_append Kd.string (w0 := w) w.heap.size rfl (.tmp 53) (.tmp 54) 45 9 (.string ⟨#[]⟩) 16 rfl Try.underlying45 info9 rfl (by decide) (by omega) (.slice X1 2 y1) [(⟨#[114]⟩ : ByteArray), (⟨#[114]⟩ : ByteArray)] (⟨#[114]⟩ : ByteArray) [.string (⟨#[114]⟩ : ByteArray)] (fun _ => True) (fun _ => False) rfl rfl ?aP2 (fun _ hk => hk.elim) ?aF2 ?aO2 ?aB2 ?aS2 ?aL2 ?_; (case aP2 => exact rfl); (case aB2 => exact (by repeat (first | (with_reducible first | exact HB.out | apply bA | apply bN | apply bD) | exact HB.out))); (case aF2 => exact (fun _ _ => trivial)); (case aO2 => exact (by (with_reducible repeat (first | apply Kd.R_alloc | apply Kd.R_drewN | apply Kd.R_drew)); exact HO.out)); (case aS2 => exact (bZ (by repeat (first | (with_reducible first | exact HB.out | apply bA | apply bN | apply bD) | exact HB.out)))); (case aL2 => (simp only [List.length_cons, List.length_nil]; omega)); intro v2 Wa2 ho hb hg hat; have n0_ := mK (blk_grown (g := w.heap.size + 1) (o := .cells #[.int .i64 op, .int .i64 0, .int .i64 0, .int .i64 0, .int .i64 0] 31) HI.out hg (Kd.R_ne HO.out HI.out (by decide))); have n1_ := mK (blk_grown (g := w.heap.size) (o := .cells #[.int .i64 0, .int .i64 0, .int .i64 0, .int .i64 0, .int .i64 0] 31) HZ.out hg (Kd.R_ne HO.out HZ.out (by decide))); obtain ⟨X2, y2, e1, hy2, -⟩ := Kd.R_reads ho; replace e1 : v2 = .slice X2 3 y2 := e1; subst e1; have n2_ := mK hb; have n3_ := mK (show Kd.R Kd.string 9 Wa2 w.heap.size (fun _ => True) (.slice X2 3 y2) [(⟨#[114]⟩ : ByteArray), (⟨#[114]⟩ : ByteArray), (⟨#[114]⟩ : ByteArray)] from ho); clear HI HZ HB HO; have HI := n0_; have HZ := n1_; have HB := n2_; have HO := n3_; clear n0_ n1_ n2_ n3_ hg hat ho hb hy2))
 have HH1 := HH.out
 clear HH
 unfold rf_rest at HH1
 by_cases hl : l1.length = 3
 ·
  rw [if_pos (show l1.length = ([rf_r, rf_r, rf_r]).length from hl)] at HH1
  replace HH1 := oB HH1
  obtain ⟨q, hq, HH1⟩ := HH1
  have HQ := mK HH1; have HL := mK hl
  have hlb : ((l1.length : Int) != 3) = false := by rw [hl]; rfl
  clear HH1 hl
  have HGE := mK (bZ HB.out)
  go_wp2
  go_loopg [14] (4) (fun kx v14 wr => ∃ (j : Nat) (ns : List Int), v14 = .int .i64 j ∧ Aside0 (j + kx = 4 ∧ j ≤ 3 ∧ ns.length = 4) ∧ Aside0 (rf_go k l1 (List.drop j [rf_r, rf_r, rf_r]) j ns = some q) ∧ Aside0 (wr.heap[Wa2.heap.size]? = some (.cells (ns.map (fun n => Value.int .i64 n)).toArray 71 (0, 0))) ∧ Aside0 (wr.heap[w.heap.size + 1]? = some (o5 op 0 0 0 0 31)) ∧ Aside0 (wr.heap[w.heap.size]? = some (o5 0 0 0 0 0 31)) ∧ Aside0 (Kd.R Kd.string 9 wr w.heap.size (fun _ => True) (.slice X2 3 y2) [rf_r, rf_r, rf_r]) ∧ Aside0 (Below w.heap.size w wr))
  case atStart => exact ⟨0, [0, 0, 0, 0], rfl, ⟨⟨by omega, by omega, rfl⟩⟩, ⟨hq⟩, ⟨blk_new _ _⟩, ⟨kA HI.out _⟩, ⟨kA HZ.out _⟩, ⟨Kd.R_alloc HO.out _⟩, ⟨bA HB.out _⟩⟩
  case round =>
   obtain ⟨j, ns, rfl, HJ, HGo, HN2, HI2, HZ2, HO2, HB2⟩ := hrel
   by_cases hj : j < 3
   ·
    have hg := HGo.out
    have hjl : j < ([rf_r, rf_r, rf_r]).length := hj
    rw [List.drop_eq_getElem_cons hjl] at hg
    unfold rf_go at hg
    replace hg := oB hg
    obtain ⟨⟨x1, ok1⟩, hNu, hg⟩ := hg
    obtain ⟨ad, e, hx⟩ := Kd.at_string HR1.out (j : Int) (by omega) (by have := HL.out; omega)
    cases e
    rw [Int.toNat_natCast] at hx
    obtain ⟨ae, e, hy⟩ := Kd.at_string (Kd.R_reads' HO2.out).2.2 (j : Int) (by omega) (by show (j : Int) < ((3 : Nat) : Int); omega)
    cases e
    rw [Int.toNat_natCast, rdOf_at_ _ _ hjl] at hy
    have hx2 := kW HB2.out hx
    have p1 : (0 ≤ (j : Int)) = True := eq_true (by omega)
    have p2 : ((j : Int) < 3) = True := eq_true (by omega)
    have p3 : ((j : Int) < (l1.length : Int)) = True := eq_true (by have := HL.out; omega)
    have p4 : decide ((j : Int) < 3) = true := decide_eq_true (by omega)
    have p5 : decide (j < 3) = true := decide_eq_true hj
    have p6 : (j < 3) = True := eq_true hj
    have p7 : (j < l1.length) = True := eq_true (by have := HL.out; omega)
    have p8 : ((j : Int) < 4) = True := eq_true (by omega)
    have p9 : (j < 4) = True := eq_true (by omega)
    have hw1 : wrap64 ((j : Int) + 1) = ((j + 1 : Nat) : Int) := by unfold wrap64; omega
    generalize ([rf_r, rf_r, rf_r])[j] = hd at hNu hy
    generalize rdOf ByteArray.empty l1 (j : Int) = str at hNu hx hx2
    have HNu := mK hNu
    have HJ2 := mK hj
    have HX := mK (And.intro hy hx2)
    have HG3 := mK hg
    clear hNu hj hjl hx hg HGo
    have hs8 : 8 ≤ 8 := Nat.le_refl _
    clear hs8
    go_wp2
    go_region_held3 (fun w' => w'.cell? (ae.add j) = some (.string hd) ∧ w'.cell? (ad.add j) = some (.string str)) (first | with_reducible exact ⟨hy5, hx5⟩ | exact ⟨hy, hx2⟩) (first | (go_at_call 35; ((with_reducible refine (pascalineref02_number.calls k hd str x1 ok1 _ HNu.out).mono ?_)); rintro e w5 ⟨rfl, hb⟩; have hS := bP (below_drew (Below.refl wr.heap.size wr)) hb; have HN5 := mK (kB HN2.out hS); have HI5 := mK (kB HI2.out hS); have HZ5 := mK (kB HZ2.out hS); have HO5 := mK (Kd.R_below HO2.out hS); have HB5 := mK (bP HB2.out hS); have hy5 := kW hS HX.out.1; have hx5 := kW hS HX.out.2; clear hb hS))
    cases ok1 with
    | false =>
     have hg := HG3.out
     rw [if_neg (by simp)] at hg
     injection hg with hg
     subst hg
     have hq2 := HQ.out
     cases hq2
     have hzb := HZ5.out; have hib := HI5.out; obtain ⟨cz0, cz1, cz2, cz3, cz4, fz0, fz1, fz2, fz3, fz4⟩ := rf_cf HZ5.out; obtain ⟨ci0, ci1, ci2, ci3, ci4, fi0, fi1, fi2, fi3, fi4⟩ := rf_cf HI5.out
     go_wp2
     (try rw [Exit.noGoto_ret])
     refine bodyPost_ret (results_list (rs := [.cell 4 31, .tmp 5]) rfl (by simp) (.cell w.heap.size 31 #[.int .i64 op, .int .i64 0, .int .i64 0, .int .i64 0, .int .i64 0] (0, 0) _ rfl (rf_five HZ5.out _ _ _ _ _) Try.underlying31 rfl (by kernel_rfl) (.tmp .nil))) rfl ?_
     exact ⟨rfl, rf_fiveb HB5.out (Nat.le_refl _) _ _ _ _ _⟩
    | true =>
     have hg := HG3.out
     rw [if_pos rfl] at hg
     have HG2 := mK hg
     clear hg HG3
     have hns : j < ns.length := by have := HJ.out; have := HJ2.out; omega
     have HNS := mK hns
     clear hns
     go_wp2_with (first | ((with_reducible refine gate_store (t := 3) (p := 99) rfl ?_); refine store_event (t := 3) (p := 99) (v := ?vs1) (w1 := (w5.setCell ⟨Wa2.heap.size, j, none⟩ (.int .i64 x1))) ?hg ?ho ?hn ?hr ?_; (case ho => rfl); (case hg => rfl); (case hn => rfl); (case hr => (have hz5 := kF HN5.out j; have hc5 : w5.cell? ⟨Wa2.heap.size, j, none⟩ = some (.int .i64 (ns[j]'HNS.out)) := (kC HN5.out j).trans (by simp [HNS.out]); first | (go_simp; done) | (go_simp; rfl))); intro w6 hw; have HN6 := mK (show w6.heap[Wa2.heap.size]? = some (.cells ((ns.set j x1).map (fun n => Value.int .i64 n)).toArray 71 (0, 0)) from (by rw [hw]; exact kP HN5.out j _ (by rw [List.setIfInBounds_toArray, List.map_set]))); have HI6 := mK (show w6.heap[w.heap.size + 1]? = some (o5 op 0 0 0 0 31) from (by rw [hw]; exact kR HI5.out (blk_ne HI5.out HN5.out (by decide)) _)); have HZ6 := mK (show w6.heap[w.heap.size]? = some (o5 0 0 0 0 0 31) from (by rw [hw]; exact kR HZ5.out (blk_ne HZ5.out HN5.out (by decide)) _)); have HO6 := mK (show Kd.R Kd.string 9 w6 w.heap.size (fun _ => True) (.slice (some ae) 3 y2) [rf_r, rf_r, rf_r] from (by rw [hw]; exact Kd.R_set HO5.out HN5.out (by decide) j _)); have HB6 := mK (show Below w.heap.size w w6 from (by rw [hw]; exact bS HB5.out HGE.out)); clear hw))
     go_roundg (3 - j)
     case measure => have h1 := HJ.out; have h2 := HJ2.out; omega
     case rel => exact ⟨j + 1, ns.set j x1, (by first | rfl | exact congrArg _ hw1 | (rw [hw1]; rfl)), ⟨by have h1 := HJ.out; have h2 := HJ2.out; exact ⟨by omega, by omega, by rw [List.length_set]; exact h1.2.2⟩⟩, HG2, HN6, HI6, HZ6, HO6, HB6⟩
   ·
    have hjl : j = 3 := by have := HJ.out; omega
    have hg := HGo.out
    rw [List.drop_eq_nil_of_le (by rw [hjl]; exact Nat.le_refl _)] at hg
    unfold rf_go at hg
    injection hg with hg
    subst hg
    have hq2 := HQ.out
    replace hq2 := oB hq2
    obtain ⟨ec, hE, hq2⟩ := hq2
    simp only [Option.some.injEq, Prod.mk.injEq] at hq2
    have hn4 := HJ.out.2.2
    obtain ⟨n0, n1, n2, n3, rfl⟩ : ∃ n0 n1 n2 n3, ns = [n0, n1, n2, n3] := rf_four hn4
    replace hE : pascalineref02_Check.f k op n0 n1 n2 0 = some ec := hE
    obtain ⟨rfl, q1, q2, q3, q4, rfl⟩ := hq2
    replace q1 : n0 = r2 := q1
    replace q2 : n1 = r3 := q2
    replace q3 : n2 = r4 := q3
    replace q4 : 0 = r5 := q4
    subst q1 q2 q3 q4
    have HE := mK hE
    subst hjl
    replace HN2 := mK (show wr.heap[Wa2.heap.size]? = some (.cells #[.int .i64 n0, .int .i64 n1, .int .i64 n2, .int .i64 n3] 71 (0, 0)) from HN2.out)
    obtain ⟨cn0, cn1, cn2, cn3, -, -, -, -⟩ := cf4 HN2.out
    clear hE hn4 hj
    go_upto_region 40 with (first | ((with_reducible refine gate_store (t := 3) (p := 104) rfl ?_); refine store_event (t := 3) (p := 104) (v := ?vt1) (w1 := (wr.setCell ⟨w.heap.size + 1, 1, none⟩ (.int .i64 n0))) ?hg ?ho ?hn ?hr ?_; (case ho => rfl); (case hg => rfl); (case hn => rfl); (case hr => (have hz5 := kF HI2.out 1; have hc5 : wr.cell? ⟨w.heap.size + 1, 1, none⟩ = some (.int .i64 0) := kC HI2.out 1; first | (go_simp; done) | (go_simp; rfl))); intro wf0 hw; obtain ⟨a1, a2, a3, a4⟩ := rf_st HI2.out HN2.out HZ2.out HB2.out (by decide) 1 (.int .i64 n0) (cs' := #[.int .i64 op, .int .i64 n0, .int .i64 0, .int .i64 0, .int .i64 0]) rfl; rw [← hw] at a1 a2 a3 a4; have HI20 := mK a1; have HN20 := mK a2; have HZ20 := mK a3; have HB20 := mK a4; clear a1 a2 a3 a4; have ck0 : wf0.cell? ⟨Wa2.heap.size, 1, none⟩ = some (.int .i64 n1) := kC HN20.out 1; clear hw) | ((with_reducible refine gate_store (t := 3) (p := 111) rfl ?_); refine store_event (t := 3) (p := 111) (v := ?vt2) (w1 := (wf0.setCell ⟨w.heap.size + 1, 2, none⟩ (.int .i64 n1))) ?hg ?ho ?hn ?hr ?_; (case ho => rfl); (case hg => rfl); (case hn => rfl); (case hr => (have hz5 := kF HI20.out 2; have hc5 : wf0.cell? ⟨w.heap.size + 1, 2, none⟩ = some (.int .i64 0) := kC HI20.out 2; first | (go_simp; done) | (go_simp; rfl))); intro wf1 hw; obtain ⟨a1, a2, a3, a4⟩ := rf_st HI20.out HN20.out HZ20.out HB20.out (by decide) 2 (.int .i64 n1) (cs' := #[.int .i64 op, .int .i64 n0, .int .i64 n1, .int .i64 0, .int .i64 0]) rfl; rw [← hw] at a1 a2 a3 a4; have HI21 := mK a1; have HN21 := mK a2; have HZ21 := mK a3; have HB21 := mK a4; clear a1 a2 a3 a4; have ck1 : wf1.cell? ⟨Wa2.heap.size, 2, none⟩ = some (.int .i64 n2) := kC HN21.out 2; clear hw) | ((with_reducible refine gate_store (t := 3) (p := 118) rfl ?_); refine store_event (t := 3) (p := 118) (v := ?vt3) (w1 := (wf1.setCell ⟨w.heap.size + 1, 3, none⟩ (.int .i64 n2))) ?hg ?ho ?hn ?hr ?_; (case ho => rfl); (case hg => rfl); (case hn => rfl); (case hr => (have hz5 := kF HI21.out 3; have hc5 : wf1.cell? ⟨w.heap.size + 1, 3, none⟩ = some (.int .i64 0) := kC HI21.out 3; first | (go_simp; done) | (go_simp; rfl))); intro wf2 hw; obtain ⟨a1, a2, a3, a4⟩ := rf_st HI21.out HN21.out HZ21.out HB21.out (by decide) 3 (.int .i64 n2) (cs' := #[.int .i64 op, .int .i64 n0, .int .i64 n1, .int .i64 n2, .int .i64 0]) rfl; rw [← hw] at a1 a2 a3 a4; have HI22 := mK a1; have HN22 := mK a2; have HZ22 := mK a3; have HB22 := mK a4; clear a1 a2 a3 a4; have ck2 : wf2.cell? ⟨Wa2.heap.size, 3, none⟩ = some (.int .i64 n3) := kC HN22.out 3; clear hw))
    have hzb := HZ22.out; have hib := HI22.out; obtain ⟨ci0, ci1, ci2, ci3, ci4, -⟩ := rf_cf HI22.out
    go_region_held3 (fun w' => w'.cell? ⟨w.heap.size + 1, 0, none⟩ = some (.int .i64 op) ∧ w'.cell? ⟨w.heap.size + 1, 1, none⟩ = some (.int .i64 n0) ∧ w'.cell? ⟨w.heap.size + 1, 2, none⟩ = some (.int .i64 n1) ∧ w'.cell? ⟨w.heap.size + 1, 3, none⟩ = some (.int .i64 n2) ∧ w'.cell? ⟨w.heap.size + 1, 4, none⟩ = some (.int .i64 0)) (first | with_reducible exact ⟨gi0, gi1, gi2, gi3, gi4⟩ | with_reducible exact rf_far5 HI5.out _ _ _ _ _ | exact ⟨ci0, ci1, ci2, ci3, ci4⟩) (first | (go_at_call 25; ((with_reducible refine (pascalineref02_Check.calls k _ _ _ _ _ ec _ HE.out).mono ?_)); rintro e w5 ⟨rfl, hb⟩; have hS := bP (below_drew (Below.refl wf2.heap.size wf2)) hb; have HZ5 := mK (kB HZ22.out hS); have HI5 := mK (kB HI22.out hS); have HB5 := mK (bP HB22.out hS); have hzb5 := HZ5.out; obtain ⟨gc0, gc1, gc2, gc3, gc4, gz0, gz1, gz2, gz3, gz4⟩ := rf_cf HZ5.out; obtain ⟨gi0, gi1, gi2, gi3, gi4, -⟩ := rf_cf HI5.out; clear hb hS))
    go_wp2
    (try rw [Exit.noGoto_ret])
    refine bodyPost_ret (results_list (rs := [.cell 4 31, .tmp 5]) rfl (by simp) (.cell w.heap.size 31 #[.int .i64 op, .int .i64 n0, .int .i64 n1, .int .i64 n2, .int .i64 0] (0, 0) _ rfl (rf_five HZ5.out _ _ _ _ _) Try.underlying31 rfl (by kernel_rfl) (.tmp .nil))) rfl ?_
    exact ⟨rfl, rf_fiveb HB5.out (Nat.le_refl _) _ _ _ _ _⟩
 ·
  rw [if_neg (show ¬ l1.length = ([rf_r, rf_r, rf_r]).length from hl)] at HH1
  cases HH1
  have hlb : ((l1.length : Int) != 3) = true := bne_iff_ne.mpr (by omega)
  have hzb := HZ.out; have hib := HI.out; obtain ⟨cz0, cz1, cz2, cz3, cz4, fz0, fz1, fz2, fz3, fz4⟩ := rf_cf HZ.out; obtain ⟨ci0, ci1, ci2, ci3, ci4, fi0, fi1, fi2, fi3, fi4⟩ := rf_cf HI.out
  clear hl
  go_wp2
  refine bodyPost_ret (results_list (rs := [.cell 4 31, .tmp 5]) rfl (by simp) (.cell w.heap.size 31 #[.int .i64 op, .int .i64 0, .int .i64 0, .int .i64 0, .int .i64 0] (0, 0) _ rfl (rf_five HZ.out _ _ _ _ _) Try.underlying31 rfl (by kernel_rfl) (.tmp .nil))) rfl ?_
  exact ⟨rfl, rf_fiveb HB.out (Nat.le_refl _) _ _ _ _ _⟩
set_option maxHeartbeats 4000000 in
set_option maxRecDepth 100000 in
theorem rf_caseABD (k : Nat) (op s : Int) (A1 : Option Addr) (c1 : Nat) (l1 : List ByteArray) (r1 r2 r3 r4 r5 : Int) (r6 : Bool) (w : World) (hr1 : Kd.C Kd.string w A1 l1.length l1) (hc1 : l1.length ≤ c1)
 (HS : Aside0 (pascalineref02_Shape.f k op = some s)) (hA : Aside0 (pascalineref02_has.f s = some (true, true, true))) (hn : decide (s < 0) = false) (b0 : (s != 0) = true) (b5 : (s != 5) = false) (b26 : (op == 26) = true) (b27 : (op != 26) = false)
 (HH : Aside0 (rf_rest k op l1 [rf_r, rf_e, rf_r] (fun ns => (rf_nd ns 0, rf_nd ns 1, rf_nd ns 2, 0)) = some (r1, r2, r3, r4, r5, r6))) :
 Calls Try.prog 23 #[.int .i64 op, .slice A1 l1.length c1] w fun e w' => e = .returned (.tuple #[.agg #[.int .i64 r1, .int .i64 r2, .int .i64 r3, .int .i64 r4, .int .i64 r5], .bool r6]) ∧ Below w.heap.size w w' := by
 have HR1 := mK hr1
 clear hr1
 go_enter Try.func23, Try.ntmps23
 go_upto_region 7 with (first | (go_at_call 14; ((with_reducible refine (pascalineref02_Shape.calls k op s _ HS.out).mono ?_)); rintro e w' ⟨rfl, ⟨nd, rfl⟩⟩) | (go_at_call 30; ((with_reducible refine (pascalineref02_has.calls s true true true _ hA.out).mono ?_)); rintro e w' ⟨rfl, ⟨nd2, rfl⟩⟩))
 obtain ⟨g0, g1, g2, g3⟩ := rf_start w (.cells #[.int .i64 0, .int .i64 0, .int .i64 0, .int .i64 0, .int .i64 0] 31) (.cells #[.int .i64 op, .int .i64 0, .int .i64 0, .int .i64 0, .int .i64 0] 31) (nd + nd2)
 obtain ⟨W0, hW0⟩ : ∃ W0, ((((w.alloc (.cells #[.int .i64 0, .int .i64 0, .int .i64 0, .int .i64 0, .int .i64 0] 31)).alloc (.cells #[.int .i64 op, .int .i64 0, .int .i64 0, .int .i64 0, .int .i64 0] 31)).drewN (nd + nd2)).alloc (.cells #[] 9)) = W0 := ⟨_, rfl⟩
 rw [hW0] at g0 g1 g2 g3 ⊢
 have HZ := mK g0; have HI := mK g1; have HB := mK g2; have HO := mK g3
 clear g0 g1 g2 g3 hW0
 go_upto_region 18 with (first | ((with_reducible refine gate_builtin (b := .append) (xs := #[.tmp 33, .tmp 34]) rfl ?_); at_builtin; refine Kd.R_append Kd.string (w0 := w) w.heap.size rfl (.tmp 33) (.tmp 34) 45 9 (.string ⟨#[]⟩) 16 rfl Try.underlying45 info9 rfl (by decide) (by omega) (.slice (some ⟨w.heap.size + 1 + 1, 0, none⟩) 0 0) ([] : List ByteArray) (⟨#[114]⟩ : ByteArray) [.string (⟨#[114]⟩ : ByteArray)] (fun _ => True) (fun _ => False) rfl rfl ?aP0 (fun _ hk => hk.elim) ?aF0 ?aO0 ?aB0 ?aS0 ?aL0 ?_; (case aP0 => exact rfl); (case aB0 => exact (by repeat (first | (with_reducible first | exact HB.out | apply bA | apply bN | apply bD) | exact HB.out))); (case aF0 => exact (fun _ _ => trivial)); (case aO0 => exact (by (with_reducible repeat (first | apply Kd.R_alloc | apply Kd.R_drewN | apply Kd.R_drew)); exact HO.out)); (case aS0 => exact (bZ (by repeat (first | (with_reducible first | exact HB.out | apply bA | apply bN | apply bD) | exact HB.out)))); (case aL0 => (simp only [List.length_cons, List.length_nil]; omega)); intro v0 Wa0 ho hb hg hat; have n0_ := mK (blk_grown (g := w.heap.size + 1) (o := .cells #[.int .i64 op, .int .i64 0, .int .i64 0, .int .i64 0, .int .i64 0] 31) HI.out hg (Kd.R_ne HO.out HI.out (by decide))); have n1_ := mK (blk_grown (g := w.heap.size) (o := .cells #[.int .i64 0, .int .i64 0, .int .i64 0, .int .i64 0, .int .i64 0] 31) HZ.out hg (Kd.R_ne HO.out HZ.out (by decide))); obtain ⟨X0, y0, e1, hy0, -⟩ := Kd.R_reads ho; replace e1 : v0 = .slice X0 1 y0 := e1; subst e1; have n2_ := mK hb; have n3_ := mK (show Kd.R Kd.string 9 Wa0 w.heap.size (fun _ => True) (.slice X0 1 y0) [(⟨#[114]⟩ : ByteArray)] from ho); clear HI HZ HB HO; have HI := n0_; have HZ := n1_; have HB := n2_; have HO := n3_; clear n0_ n1_ n2_ n3_ hg hat ho hb hy0) | ((with_reducible refine gate_builtin (b := .append) (xs := #[.tmp 41, .tmp 42]) rfl ?_); at_builtin; refine Kd.R_append Kd.string (w0 := w) w.heap.size rfl (.tmp 41) (.tmp 42) 45 9 (.string ⟨#[]⟩) 16 rfl Try.underlying45 info9 rfl (by decide) (by omega) (.slice X0 1 y0) [(⟨#[114]⟩ : ByteArray)] (⟨#[]⟩ : ByteArray) [.string (⟨#[]⟩ : ByteArray)] (fun _ => True) (fun _ => False) rfl rfl ?aP1 (fun _ hk => hk.elim) ?aF1 ?aO1 ?aB1 ?aS1 ?aL1 ?_; (case aP1 => exact rfl); (case aB1 => exact (by repeat (first | (with_reducible first | exact HB.out | apply bA | apply bN | apply bD) | exact HB.out))); (case aF1 => exact (fun _ _ => trivial)); (case aO1 => exact (by (with_reducible repeat (first | apply Kd.R_alloc | apply Kd.R_drewN | apply Kd.R_drew)); exact HO.out)); (case aS1 => exact (bZ (by repeat (first | (with_reducible first | exact HB.out | apply bA | apply bN | apply bD) | exact HB.out)))); (case aL1 => (simp only [List.length_cons, List.length_nil]; omega)); intro v1 Wa1 ho hb hg hat; have n0_ := mK (blk_grown (g := w.heap.size + 1) (o := .cells #[.int .i64 op, .int .i64 0, .int .i64 0, .int .i64 0, .int .i64 0] 31) HI.out hg (Kd.R_ne HO.out HI.out (by decide))); have n1_ := mK (blk_grown (g := w.heap.size) (o := .cells #[.int .i64 0, .int .i64 0, .int .i64 0, .int .i64 0, .int .i64 0] 31) HZ.out hg (Kd.R_ne HO.out HZ.out (by decide))); obtain ⟨X1, y1, e1, hy1, -⟩ := Kd.R_reads ho; replace e1 : v1 = .slice X1 2 y1 := e1; subst e1; have n2_ := mK hb; have n3_ := mK (show Kd.R Kd.string 9 Wa1 w.heap.size (fun _ => True) (.slice X1 2 y1) [(⟨#[114]⟩ : ByteArray), (⟨#[]⟩ : ByteArray)] from ho); clear HI HZ HB HO; have HI := n0_; have HZ := n1_; have HB := n2_; have HO := n3_; clear n0_ n1_ n2_ n3_ hg hat ho hb hy1) | ((with_reducible refine gate_builtin (b := .append) (xs := #[.tmp 53, .tmp 54]) rfl ?_); at_builtin; refine Kd.R_append Kd.string (w0 := w) w.heap.size rfl (.tmp 53) (.tmp 54) 45 9 (.string ⟨#[]⟩) 16 rfl Try.underlying45 info9 rfl (by decide) (by omega) (.slice X1 2 y1) [(⟨#[114]⟩ : ByteArray), (⟨#[]⟩ : ByteArray)] (⟨#[114]⟩ : ByteArray) [.string (⟨#[114]⟩ : ByteArray)] (fun _ => True) (fun _ => False) rfl rfl ?aP2 (fun _ hk => hk.elim) ?aF2 ?aO2 ?aB2 ?aS2 ?aL2 ?_; (case aP2 => exact rfl); (case aB2 => exact (by repeat (first | (with_reducible first | exact HB.out | apply bA | apply bN | apply bD) | exact HB.out))); (case aF2 => exact (fun _ _ => trivial)); (case aO2 => exact (by (with_reducible repeat (first | apply Kd.R_alloc | apply Kd.R_drewN | apply Kd.R_drew)); exact HO.out)); (case aS2 => exact (bZ (by repeat (first | (with_reducible first | exact HB.out | apply bA | apply bN | apply bD) | exact HB.out)))); (case aL2 => (simp only [List.length_cons, List.length_nil]; omega)); intro v2 Wa2 ho hb hg hat; have n0_ := mK (blk_grown (g := w.heap.size + 1) (o := .cells #[.int .i64 op, .int .i64 0, .int .i64 0, .int .i64 0, .int .i64 0] 31) HI.out hg (Kd.R_ne HO.out HI.out (by decide))); have n1_ := mK (blk_grown (g := w.heap.size) (o := .cells #[.int .i64 0, .int .i64 0, .int .i64 0, .int .i64 0, .int .i64 0] 31) HZ.out hg (Kd.R_ne HO.out HZ.out (by decide))); obtain ⟨X2, y2, e1, hy2, -⟩ := Kd.R_reads ho; replace e1 : v2 = .slice X2 3 y2 := e1; subst e1; have n2_ := mK hb; have n3_ := mK (show Kd.R Kd.string 9 Wa2 w.heap.size (fun _ => True) (.slice X2 3 y2) [(⟨#[114]⟩ : ByteArray), (⟨#[]⟩ : ByteArray), (⟨#[114]⟩ : ByteArray)] from ho); clear HI HZ HB HO; have HI := n0_; have HZ := n1_; have HB := n2_; have HO := n3_; clear n0_ n1_ n2_ n3_ hg hat ho hb hy2))
 have HH1 := HH.out
 clear HH
 unfold rf_rest at HH1
 by_cases hl : l1.length = 3
 ·
  rw [if_pos (show l1.length = ([rf_r, rf_e, rf_r]).length from hl)] at HH1
  replace HH1 := oB HH1
  obtain ⟨q, hq, HH1⟩ := HH1
  have HQ := mK HH1; have HL := mK hl
  have hlb : ((l1.length : Int) != 3) = false := by rw [hl]; rfl
  clear HH1 hl
  have HGE := mK (bZ HB.out)
  go_wp2
  go_loopg [14] (4) (fun kx v14 wr => ∃ (j : Nat) (ns : List Int), v14 = .int .i64 j ∧ Aside0 (j + kx = 4 ∧ j ≤ 3 ∧ ns.length = 4) ∧ Aside0 (rf_go k l1 (List.drop j [rf_r, rf_e, rf_r]) j ns = some q) ∧ Aside0 (wr.heap[Wa2.heap.size]? = some (.cells (ns.map (fun n => Value.int .i64 n)).toArray 71 (0, 0))) ∧ Aside0 (wr.heap[w.heap.size + 1]? = some (o5 op 0 0 0 0 31)) ∧ Aside0 (wr.heap[w.heap.size]? = some (o5 0 0 0 0 0 31)) ∧ Aside0 (Kd.R Kd.string 9 wr w.heap.size (fun _ => True) (.slice X2 3 y2) [rf_r, rf_e, rf_r]) ∧ Aside0 (Below w.heap.size w wr))
  case atStart => exact ⟨0, [0, 0, 0, 0], rfl, ⟨⟨by omega, by omega, rfl⟩⟩, ⟨hq⟩, ⟨blk_new _ _⟩, ⟨kA HI.out _⟩, ⟨kA HZ.out _⟩, ⟨Kd.R_alloc HO.out _⟩, ⟨bA HB.out _⟩⟩
  case round =>
   obtain ⟨j, ns, rfl, HJ, HGo, HN2, HI2, HZ2, HO2, HB2⟩ := hrel
   by_cases hj : j < 3
   ·
    have hg := HGo.out
    have hjl : j < ([rf_r, rf_e, rf_r]).length := hj
    rw [List.drop_eq_getElem_cons hjl] at hg
    unfold rf_go at hg
    replace hg := oB hg
    obtain ⟨⟨x1, ok1⟩, hNu, hg⟩ := hg
    obtain ⟨ad, e, hx⟩ := Kd.at_string HR1.out (j : Int) (by omega) (by have := HL.out; omega)
    cases e
    rw [Int.toNat_natCast] at hx
    obtain ⟨ae, e, hy⟩ := Kd.at_string (Kd.R_reads' HO2.out).2.2 (j : Int) (by omega) (by show (j : Int) < ((3 : Nat) : Int); omega)
    cases e
    rw [Int.toNat_natCast, rdOf_at_ _ _ hjl] at hy
    have hx2 := kW HB2.out hx
    have p1 : (0 ≤ (j : Int)) = True := eq_true (by omega)
    have p2 : ((j : Int) < 3) = True := eq_true (by omega)
    have p3 : ((j : Int) < (l1.length : Int)) = True := eq_true (by have := HL.out; omega)
    have p4 : decide ((j : Int) < 3) = true := decide_eq_true (by omega)
    have p5 : decide (j < 3) = true := decide_eq_true hj
    have p6 : (j < 3) = True := eq_true hj
    have p7 : (j < l1.length) = True := eq_true (by have := HL.out; omega)
    have p8 : ((j : Int) < 4) = True := eq_true (by omega)
    have p9 : (j < 4) = True := eq_true (by omega)
    have hw1 : wrap64 ((j : Int) + 1) = ((j + 1 : Nat) : Int) := by unfold wrap64; omega
    generalize ([rf_r, rf_e, rf_r])[j] = hd at hNu hy
    generalize rdOf ByteArray.empty l1 (j : Int) = str at hNu hx hx2
    have HNu := mK hNu
    have HJ2 := mK hj
    have HX := mK (And.intro hy hx2)
    have HG3 := mK hg
    clear hNu hj hjl hx hg HGo
    have hs8 : 8 ≤ 8 := Nat.le_refl _
    clear hs8
    go_wp2
    go_region_held3 (fun w' => w'.cell? (ae.add j) = some (.string hd) ∧ w'.cell? (ad.add j) = some (.string str)) (first | with_reducible exact ⟨hy5, hx5⟩ | exact ⟨hy, hx2⟩) (first | (go_at_call 35; ((with_reducible refine (pascalineref02_number.calls k hd str x1 ok1 _ HNu.out).mono ?_)); rintro e w5 ⟨rfl, hb⟩; have hS := bP (below_drew (Below.refl wr.heap.size wr)) hb; have HN5 := mK (kB HN2.out hS); have HI5 := mK (kB HI2.out hS); have HZ5 := mK (kB HZ2.out hS); have HO5 := mK (Kd.R_below HO2.out hS); have HB5 := mK (bP HB2.out hS); have hy5 := kW hS HX.out.1; have hx5 := kW hS HX.out.2; clear hb hS))
    cases ok1 with
    | false =>
     have hg := HG3.out
     rw [if_neg (by simp)] at hg
     injection hg with hg
     subst hg
     have hq2 := HQ.out
     cases hq2
     have hzb := HZ5.out; have hib := HI5.out; obtain ⟨cz0, cz1, cz2, cz3, cz4, fz0, fz1, fz2, fz3, fz4⟩ := rf_cf HZ5.out; obtain ⟨ci0, ci1, ci2, ci3, ci4, fi0, fi1, fi2, fi3, fi4⟩ := rf_cf HI5.out
     go_wp2
     (try rw [Exit.noGoto_ret])
     refine bodyPost_ret (results_list (rs := [.cell 4 31, .tmp 5]) rfl (by simp) (.cell w.heap.size 31 #[.int .i64 op, .int .i64 0, .int .i64 0, .int .i64 0, .int .i64 0] (0, 0) _ rfl (rf_five HZ5.out _ _ _ _ _) Try.underlying31 rfl (by kernel_rfl) (.tmp .nil))) rfl ?_
     exact ⟨rfl, rf_fiveb HB5.out (Nat.le_refl _) _ _ _ _ _⟩
    | true =>
     have hg := HG3.out
     rw [if_pos rfl] at hg
     have HG2 := mK hg
     clear hg HG3
     have hns : j < ns.length := by have := HJ.out; have := HJ2.out; omega
     have HNS := mK hns
     clear hns
     go_wp2_with (first | ((with_reducible refine gate_store (t := 3) (p := 99) rfl ?_); refine store_event (t := 3) (p := 99) (v := ?vs1) (w1 := (w5.setCell ⟨Wa2.heap.size, j, none⟩ (.int .i64 x1))) ?hg ?ho ?hn ?hr ?_; (case ho => rfl); (case hg => rfl); (case hn => rfl); (case hr => (have hz5 := kF HN5.out j; have hc5 : w5.cell? ⟨Wa2.heap.size, j, none⟩ = some (.int .i64 (ns[j]'HNS.out)) := (kC HN5.out j).trans (by simp [HNS.out]); first | (go_simp; done) | (go_simp; rfl))); intro w6 hw; have HN6 := mK (show w6.heap[Wa2.heap.size]? = some (.cells ((ns.set j x1).map (fun n => Value.int .i64 n)).toArray 71 (0, 0)) from (by rw [hw]; exact kP HN5.out j _ (by rw [List.setIfInBounds_toArray, List.map_set]))); have HI6 := mK (show w6.heap[w.heap.size + 1]? = some (o5 op 0 0 0 0 31) from (by rw [hw]; exact kR HI5.out (blk_ne HI5.out HN5.out (by decide)) _)); have HZ6 := mK (show w6.heap[w.heap.size]? = some (o5 0 0 0 0 0 31) from (by rw [hw]; exact kR HZ5.out (blk_ne HZ5.out HN5.out (by decide)) _)); have HO6 := mK (show Kd.R Kd.string 9 w6 w.heap.size (fun _ => True) (.slice (some ae) 3 y2) [rf_r, rf_e, rf_r] from (by rw [hw]; exact Kd.R_set HO5.out HN5.out (by decide) j _)); have HB6 := mK (show Below w.heap.size w w6 from (by rw [hw]; exact bS HB5.out HGE.out)); clear hw))
     go_roundg (3 - j)
     case measure => have h1 := HJ.out; have h2 := HJ2.out; omega
     case rel => exact ⟨j + 1, ns.set j x1, (by first | rfl | exact congrArg _ hw1 | (rw [hw1]; rfl)), ⟨by have h1 := HJ.out; have h2 := HJ2.out; exact ⟨by omega, by omega, by rw [List.length_set]; exact h1.2.2⟩⟩, HG2, HN6, HI6, HZ6, HO6, HB6⟩
   ·
    have hjl : j = 3 := by have := HJ.out; omega
    have hg := HGo.out
    rw [List.drop_eq_nil_of_le (by rw [hjl]; exact Nat.le_refl _)] at hg
    unfold rf_go at hg
    injection hg with hg
    subst hg
    have hq2 := HQ.out
    replace hq2 := oB hq2
    obtain ⟨ec, hE, hq2⟩ := hq2
    simp only [Option.some.injEq, Prod.mk.injEq] at hq2
    have hn4 := HJ.out.2.2
    obtain ⟨n0, n1, n2, n3, rfl⟩ : ∃ n0 n1 n2 n3, ns = [n0, n1, n2, n3] := rf_four hn4
    replace hE : pascalineref02_Check.f k op n0 n1 n2 0 = some ec := hE
    obtain ⟨rfl, q1, q2, q3, q4, rfl⟩ := hq2
    replace q1 : n0 = r2 := q1
    replace q2 : n1 = r3 := q2
    replace q3 : n2 = r4 := q3
    replace q4 : 0 = r5 := q4
    subst q1 q2 q3 q4
    have HE := mK hE
    subst hjl
    replace HN2 := mK (show wr.heap[Wa2.heap.size]? = some (.cells #[.int .i64 n0, .int .i64 n1, .int .i64 n2, .int .i64 n3] 71 (0, 0)) from HN2.out)
    obtain ⟨cn0, cn1, cn2, cn3, -, -, -, -⟩ := cf4 HN2.out
    clear hE hn4 hj
    go_upto_region 40 with (first | ((with_reducible refine gate_store (t := 3) (p := 104) rfl ?_); refine store_event (t := 3) (p := 104) (v := ?vt1) (w1 := (wr.setCell ⟨w.heap.size + 1, 1, none⟩ (.int .i64 n0))) ?hg ?ho ?hn ?hr ?_; (case ho => rfl); (case hg => rfl); (case hn => rfl); (case hr => (have hz5 := kF HI2.out 1; have hc5 : wr.cell? ⟨w.heap.size + 1, 1, none⟩ = some (.int .i64 0) := kC HI2.out 1; first | (go_simp; done) | (go_simp; rfl))); intro wf0 hw; obtain ⟨a1, a2, a3, a4⟩ := rf_st HI2.out HN2.out HZ2.out HB2.out (by decide) 1 (.int .i64 n0) (cs' := #[.int .i64 op, .int .i64 n0, .int .i64 0, .int .i64 0, .int .i64 0]) rfl; rw [← hw] at a1 a2 a3 a4; have HI20 := mK a1; have HN20 := mK a2; have HZ20 := mK a3; have HB20 := mK a4; clear a1 a2 a3 a4; have ck0 : wf0.cell? ⟨Wa2.heap.size, 1, none⟩ = some (.int .i64 n1) := kC HN20.out 1; clear hw) | ((with_reducible refine gate_store (t := 3) (p := 111) rfl ?_); refine store_event (t := 3) (p := 111) (v := ?vt2) (w1 := (wf0.setCell ⟨w.heap.size + 1, 2, none⟩ (.int .i64 n1))) ?hg ?ho ?hn ?hr ?_; (case ho => rfl); (case hg => rfl); (case hn => rfl); (case hr => (have hz5 := kF HI20.out 2; have hc5 : wf0.cell? ⟨w.heap.size + 1, 2, none⟩ = some (.int .i64 0) := kC HI20.out 2; first | (go_simp; done) | (go_simp; rfl))); intro wf1 hw; obtain ⟨a1, a2, a3, a4⟩ := rf_st HI20.out HN20.out HZ20.out HB20.out (by decide) 2 (.int .i64 n1) (cs' := #[.int .i64 op, .int .i64 n0, .int .i64 n1, .int .i64 0, .int .i64 0]) rfl; rw [← hw] at a1 a2 a3 a4; have HI21 := mK a1; have HN21 := mK a2; have HZ21 := mK a3; have HB21 := mK a4; clear a1 a2 a3 a4; have ck1 : wf1.cell? ⟨Wa2.heap.size, 2, none⟩ = some (.int .i64 n2) := kC HN21.out 2; clear hw) | ((with_reducible refine gate_store (t := 3) (p := 118) rfl ?_); refine store_event (t := 3) (p := 118) (v := ?vt3) (w1 := (wf1.setCell ⟨w.heap.size + 1, 3, none⟩ (.int .i64 n2))) ?hg ?ho ?hn ?hr ?_; (case ho => rfl); (case hg => rfl); (case hn => rfl); (case hr => (have hz5 := kF HI21.out 3; have hc5 : wf1.cell? ⟨w.heap.size + 1, 3, none⟩ = some (.int .i64 0) := kC HI21.out 3; first | (go_simp; done) | (go_simp; rfl))); intro wf2 hw; obtain ⟨a1, a2, a3, a4⟩ := rf_st HI21.out HN21.out HZ21.out HB21.out (by decide) 3 (.int .i64 n2) (cs' := #[.int .i64 op, .int .i64 n0, .int .i64 n1, .int .i64 n2, .int .i64 0]) rfl; rw [← hw] at a1 a2 a3 a4; have HI22 := mK a1; have HN22 := mK a2; have HZ22 := mK a3; have HB22 := mK a4; clear a1 a2 a3 a4; have ck2 : wf2.cell? ⟨Wa2.heap.size, 3, none⟩ = some (.int .i64 n3) := kC HN22.out 3; clear hw))
    have hzb := HZ22.out; have hib := HI22.out; obtain ⟨ci0, ci1, ci2, ci3, ci4, -⟩ := rf_cf HI22.out
    go_region_held3 (fun w' => w'.cell? ⟨w.heap.size + 1, 0, none⟩ = some (.int .i64 op) ∧ w'.cell? ⟨w.heap.size + 1, 1, none⟩ = some (.int .i64 n0) ∧ w'.cell? ⟨w.heap.size + 1, 2, none⟩ = some (.int .i64 n1) ∧ w'.cell? ⟨w.heap.size + 1, 3, none⟩ = some (.int .i64 n2) ∧ w'.cell? ⟨w.heap.size + 1, 4, none⟩ = some (.int .i64 0)) (first | with_reducible exact ⟨gi0, gi1, gi2, gi3, gi4⟩ | with_reducible exact rf_far5 HI5.out _ _ _ _ _ | exact ⟨ci0, ci1, ci2, ci3, ci4⟩) (first | (go_at_call 25; ((with_reducible refine (pascalineref02_Check.calls k _ _ _ _ _ ec _ HE.out).mono ?_)); rintro e w5 ⟨rfl, hb⟩; have hS := bP (below_drew (Below.refl wf2.heap.size wf2)) hb; have HZ5 := mK (kB HZ22.out hS); have HI5 := mK (kB HI22.out hS); have HB5 := mK (bP HB22.out hS); have hzb5 := HZ5.out; obtain ⟨gc0, gc1, gc2, gc3, gc4, gz0, gz1, gz2, gz3, gz4⟩ := rf_cf HZ5.out; obtain ⟨gi0, gi1, gi2, gi3, gi4, -⟩ := rf_cf HI5.out; clear hb hS))
    go_wp2
    (try rw [Exit.noGoto_ret])
    refine bodyPost_ret (results_list (rs := [.cell 4 31, .tmp 5]) rfl (by simp) (.cell w.heap.size 31 #[.int .i64 op, .int .i64 n0, .int .i64 n1, .int .i64 n2, .int .i64 0] (0, 0) _ rfl (rf_five HZ5.out _ _ _ _ _) Try.underlying31 rfl (by kernel_rfl) (.tmp .nil))) rfl ?_
    exact ⟨rfl, rf_fiveb HB5.out (Nat.le_refl _) _ _ _ _ _⟩
 ·
  rw [if_neg (show ¬ l1.length = ([rf_r, rf_e, rf_r]).length from hl)] at HH1
  cases HH1
  have hlb : ((l1.length : Int) != 3) = true := bne_iff_ne.mpr (by omega)
  have hzb := HZ.out; have hib := HI.out; obtain ⟨cz0, cz1, cz2, cz3, cz4, fz0, fz1, fz2, fz3, fz4⟩ := rf_cf HZ.out; obtain ⟨ci0, ci1, ci2, ci3, ci4, fi0, fi1, fi2, fi3, fi4⟩ := rf_cf HI.out
  clear hl
  go_wp2
  refine bodyPost_ret (results_list (rs := [.cell 4 31, .tmp 5]) rfl (by simp) (.cell w.heap.size 31 #[.int .i64 op, .int .i64 0, .int .i64 0, .int .i64 0, .int .i64 0] (0, 0) _ rfl (rf_five HZ.out _ _ _ _ _) Try.underlying31 rfl (by kernel_rfl) (.tmp .nil))) rfl ?_
  exact ⟨rfl, rf_fiveb HB.out (Nat.le_refl _) _ _ _ _ _⟩
set_option maxHeartbeats 4000000 in
set_option maxRecDepth 100000 in
theorem rf_caseA (k : Nat) (op s : Int) (A1 : Option Addr) (c1 : Nat) (l1 : List ByteArray) (r1 r2 r3 r4 r5 : Int) (r6 : Bool) (w : World) (hr1 : Kd.C Kd.string w A1 l1.length l1) (hc1 : l1.length ≤ c1)
 (HS : Aside0 (pascalineref02_Shape.f k op = some s)) (hA : Aside0 (pascalineref02_has.f s = some (true, false, false))) (hn : decide (s < 0) = false) (b0 : (s != 0) = true) (b5 : (s != 5) = true) (b6 : (s != 6) = false)
 (HH : Aside0 (rf_rest k op l1 [rf_r] (fun ns => (rf_nd ns 0, 0, 0, 0)) = some (r1, r2, r3, r4, r5, r6))) :
 Calls Try.prog 23 #[.int .i64 op, .slice A1 l1.length c1] w fun e w' => e = .returned (.tuple #[.agg #[.int .i64 r1, .int .i64 r2, .int .i64 r3, .int .i64 r4, .int .i64 r5], .bool r6]) ∧ Below w.heap.size w w' := by
 have HR1 := mK hr1
 clear hr1
 go_enter Try.func23, Try.ntmps23
 go_upto_region 7 with (first | (go_at_call 14; ((with_reducible refine (pascalineref02_Shape.calls k op s _ HS.out).mono ?_)); rintro e w' ⟨rfl, ⟨nd, rfl⟩⟩) | (go_at_call 30; ((with_reducible refine (pascalineref02_has.calls s true false false _ hA.out).mono ?_)); rintro e w' ⟨rfl, ⟨nd2, rfl⟩⟩))
 obtain ⟨g0, g1, g2, g3⟩ := rf_start w (.cells #[.int .i64 0, .int .i64 0, .int .i64 0, .int .i64 0, .int .i64 0] 31) (.cells #[.int .i64 op, .int .i64 0, .int .i64 0, .int .i64 0, .int .i64 0] 31) (nd + nd2)
 obtain ⟨W0, hW0⟩ : ∃ W0, ((((w.alloc (.cells #[.int .i64 0, .int .i64 0, .int .i64 0, .int .i64 0, .int .i64 0] 31)).alloc (.cells #[.int .i64 op, .int .i64 0, .int .i64 0, .int .i64 0, .int .i64 0] 31)).drewN (nd + nd2)).alloc (.cells #[] 9)) = W0 := ⟨_, rfl⟩
 rw [hW0] at g0 g1 g2 g3 ⊢
 have HZ := mK g0; have HI := mK g1; have HB := mK g2; have HO := mK g3
 clear g0 g1 g2 g3 hW0
 go_upto_region 18 with (first | ((with_reducible refine gate_builtin (b := .append) (xs := #[.tmp 33, .tmp 34]) rfl ?_); at_builtin; refine Kd.R_append Kd.string (w0 := w) w.heap.size rfl (.tmp 33) (.tmp 34) 45 9 (.string ⟨#[]⟩) 16 rfl Try.underlying45 info9 rfl (by decide) (by omega) (.slice (some ⟨w.heap.size + 1 + 1, 0, none⟩) 0 0) ([] : List ByteArray) (⟨#[114]⟩ : ByteArray) [.string (⟨#[114]⟩ : ByteArray)] (fun _ => True) (fun _ => False) rfl rfl ?aP0 (fun _ hk => hk.elim) ?aF0 ?aO0 ?aB0 ?aS0 ?aL0 ?_; (case aP0 => exact rfl); (case aB0 => exact (by repeat (first | (with_reducible first | exact HB.out | apply bA | apply bN | apply bD) | exact HB.out))); (case aF0 => exact (fun _ _ => trivial)); (case aO0 => exact (by (with_reducible repeat (first | apply Kd.R_alloc | apply Kd.R_drewN | apply Kd.R_drew)); exact HO.out)); (case aS0 => exact (bZ (by repeat (first | (with_reducible first | exact HB.out | apply bA | apply bN | apply bD) | exact HB.out)))); (case aL0 => (simp only [List.length_cons, List.length_nil]; omega)); intro v0 Wa0 ho hb hg hat; have n0_ := mK (blk_grown (g := w.heap.size + 1) (o := .cells #[.int .i64 op, .int .i64 0, .int .i64 0, .int .i64 0, .int .i64 0] 31) HI.out hg (Kd.R_ne HO.out HI.out (by decide))); have n1_ := mK (blk_grown (g := w.heap.size) (o := .cells #[.int .i64 0, .int .i64 0, .int .i64 0, .int .i64 0, .int .i64 0] 31) HZ.out hg (Kd.R_ne HO.out HZ.out (by decide))); obtain ⟨X0, y0, e1, hy0, -⟩ := Kd.R_reads ho; replace e1 : v0 = .slice X0 1 y0 := e1; subst e1; have n2_ := mK hb; have n3_ := mK (show Kd.R Kd.string 9 Wa0 w.heap.size (fun _ => True) (.slice X0 1 y0) [(⟨#[114]⟩ : ByteArray)] from ho); clear HI HZ HB HO; have HI := n0_; have HZ := n1_; have HB := n2_; have HO := n3_; clear n0_ n1_ n2_ n3_ hg hat ho hb hy0))
 have HH1 := HH.out
 clear HH
 unfold rf_rest at HH1
 by_cases hl : l1.length = 1
 ·
  rw [if_pos (show l1.length = ([rf_r]).length from hl)] at HH1
  replace HH1 := oB HH1
  obtain ⟨q, hq, HH1⟩ := HH1
  have HQ := mK HH1; have HL := mK hl
  have hlb : ((l1.length : Int) != 1) = false := by rw [hl]; rfl
  clear HH1 hl
  have HGE := mK (bZ HB.out)
  go_wp2
  go_loopg [14] (2) (fun kx v14 wr => ∃ (j : Nat) (ns : List Int), v14 = .int .i64 j ∧ Aside0 (j + kx = 2 ∧ j ≤ 1 ∧ ns.length = 4) ∧ Aside0 (rf_go k l1 (List.drop j [rf_r]) j ns = some q) ∧ Aside0 (wr.heap[Wa0.heap.size]? = some (.cells (ns.map (fun n => Value.int .i64 n)).toArray 71 (0, 0))) ∧ Aside0 (wr.heap[w.heap.size + 1]? = some (o5 op 0 0 0 0 31)) ∧ Aside0 (wr.heap[w.heap.size]? = some (o5 0 0 0 0 0 31)) ∧ Aside0 (Kd.R Kd.string 9 wr w.heap.size (fun _ => True) (.slice X0 1 y0) [rf_r]) ∧ Aside0 (Below w.heap.size w wr))
  case atStart => exact ⟨0, [0, 0, 0, 0], rfl, ⟨⟨by omega, by omega, rfl⟩⟩, ⟨hq⟩, ⟨blk_new _ _⟩, ⟨kA HI.out _⟩, ⟨kA HZ.out _⟩, ⟨Kd.R_alloc HO.out _⟩, ⟨bA HB.out _⟩⟩
  case round =>
   obtain ⟨j, ns, rfl, HJ, HGo, HN2, HI2, HZ2, HO2, HB2⟩ := hrel
   by_cases hj : j < 1
   ·
    have hg := HGo.out
    have hjl : j < ([rf_r]).length := hj
    rw [List.drop_eq_getElem_cons hjl] at hg
    unfold rf_go at hg
    replace hg := oB hg
    obtain ⟨⟨x1, ok1⟩, hNu, hg⟩ := hg
    obtain ⟨ad, e, hx⟩ := Kd.at_string HR1.out (j : Int) (by omega) (by have := HL.out; omega)
    cases e
    rw [Int.toNat_natCast] at hx
    obtain ⟨ae, e, hy⟩ := Kd.at_string (Kd.R_reads' HO2.out).2.2 (j : Int) (by omega) (by show (j : Int) < ((1 : Nat) : Int); omega)
    cases e
    rw [Int.toNat_natCast, rdOf_at_ _ _ hjl] at hy
    have hx2 := kW HB2.out hx
    have p1 : (0 ≤ (j : Int)) = True := eq_true (by omega)
    have p2 : ((j : Int) < 1) = True := eq_true (by omega)
    have p3 : ((j : Int) < (l1.length : Int)) = True := eq_true (by have := HL.out; omega)
    have p4 : decide ((j : Int) < 1) = true := decide_eq_true (by omega)
    have p5 : decide (j < 1) = true := decide_eq_true hj
    have p6 : (j < 1) = True := eq_true hj
    have p7 : (j < l1.length) = True := eq_true (by have := HL.out; omega)
    have p8 : ((j : Int) < 4) = True := eq_true (by omega)
    have p9 : (j < 4) = True := eq_true (by omega)
    have hw1 : wrap64 ((j : Int) + 1) = ((j + 1 : Nat) : Int) := by unfold wrap64; omega
    generalize ([rf_r])[j] = hd at hNu hy
    generalize rdOf ByteArray.empty l1 (j : Int) = str at hNu hx hx2
    have HNu := mK hNu
    have HJ2 := mK hj
    have HX := mK (And.intro hy hx2)
    have HG3 := mK hg
    clear hNu hj hjl hx hg HGo
    have hs8 : 8 ≤ 8 := Nat.le_refl _
    clear hs8
    go_wp2
    go_region_held3 (fun w' => w'.cell? (ae.add j) = some (.string hd) ∧ w'.cell? (ad.add j) = some (.string str)) (first | with_reducible exact ⟨hy5, hx5⟩ | exact ⟨hy, hx2⟩) (first | (go_at_call 35; ((with_reducible refine (pascalineref02_number.calls k hd str x1 ok1 _ HNu.out).mono ?_)); rintro e w5 ⟨rfl, hb⟩; have hS := bP (below_drew (Below.refl wr.heap.size wr)) hb; have HN5 := mK (kB HN2.out hS); have HI5 := mK (kB HI2.out hS); have HZ5 := mK (kB HZ2.out hS); have HO5 := mK (Kd.R_below HO2.out hS); have HB5 := mK (bP HB2.out hS); have hy5 := kW hS HX.out.1; have hx5 := kW hS HX.out.2; clear hb hS))
    cases ok1 with
    | false =>
     have hg := HG3.out
     rw [if_neg (by simp)] at hg
     injection hg with hg
     subst hg
     have hq2 := HQ.out
     cases hq2
     have hzb := HZ5.out; have hib := HI5.out; obtain ⟨cz0, cz1, cz2, cz3, cz4, fz0, fz1, fz2, fz3, fz4⟩ := rf_cf HZ5.out; obtain ⟨ci0, ci1, ci2, ci3, ci4, fi0, fi1, fi2, fi3, fi4⟩ := rf_cf HI5.out
     go_wp2
     (try rw [Exit.noGoto_ret])
     refine bodyPost_ret (results_list (rs := [.cell 4 31, .tmp 5]) rfl (by simp) (.cell w.heap.size 31 #[.int .i64 op, .int .i64 0, .int .i64 0, .int .i64 0, .int .i64 0] (0, 0) _ rfl (rf_five HZ5.out _ _ _ _ _) Try.underlying31 rfl (by kernel_rfl) (.tmp .nil))) rfl ?_
     exact ⟨rfl, rf_fiveb HB5.out (Nat.le_refl _) _ _ _ _ _⟩
    | true =>
     have hg := HG3.out
     rw [if_pos rfl] at hg
     have HG2 := mK hg
     clear hg HG3
     have hns : j < ns.length := by have := HJ.out; have := HJ2.out; omega
     have HNS := mK hns
     clear hns
     go_wp2_with (first | ((with_reducible refine gate_store (t := 3) (p := 99) rfl ?_); refine store_event (t := 3) (p := 99) (v := ?vs1) (w1 := (w5.setCell ⟨Wa0.heap.size, j, none⟩ (.int .i64 x1))) ?hg ?ho ?hn ?hr ?_; (case ho => rfl); (case hg => rfl); (case hn => rfl); (case hr => (have hz5 := kF HN5.out j; have hc5 : w5.cell? ⟨Wa0.heap.size, j, none⟩ = some (.int .i64 (ns[j]'HNS.out)) := (kC HN5.out j).trans (by simp [HNS.out]); first | (go_simp; done) | (go_simp; rfl))); intro w6 hw; have HN6 := mK (show w6.heap[Wa0.heap.size]? = some (.cells ((ns.set j x1).map (fun n => Value.int .i64 n)).toArray 71 (0, 0)) from (by rw [hw]; exact kP HN5.out j _ (by rw [List.setIfInBounds_toArray, List.map_set]))); have HI6 := mK (show w6.heap[w.heap.size + 1]? = some (o5 op 0 0 0 0 31) from (by rw [hw]; exact kR HI5.out (blk_ne HI5.out HN5.out (by decide)) _)); have HZ6 := mK (show w6.heap[w.heap.size]? = some (o5 0 0 0 0 0 31) from (by rw [hw]; exact kR HZ5.out (blk_ne HZ5.out HN5.out (by decide)) _)); have HO6 := mK (show Kd.R Kd.string 9 w6 w.heap.size (fun _ => True) (.slice (some ae) 1 y0) [rf_r] from (by rw [hw]; exact Kd.R_set HO5.out HN5.out (by decide) j _)); have HB6 := mK (show Below w.heap.size w w6 from (by rw [hw]; exact bS HB5.out HGE.out)); clear hw))
     go_roundg (1 - j)
     case measure => have h1 := HJ.out; have h2 := HJ2.out; omega
     case rel => exact ⟨j + 1, ns.set j x1, (by first | rfl | exact congrArg _ hw1 | (rw [hw1]; rfl)), ⟨by have h1 := HJ.out; have h2 := HJ2.out; exact ⟨by omega, by omega, by rw [List.length_set]; exact h1.2.2⟩⟩, HG2, HN6, HI6, HZ6, HO6, HB6⟩
   ·
    have hjl : j = 1 := by have := HJ.out; omega
    have hg := HGo.out
    rw [List.drop_eq_nil_of_le (by rw [hjl]; exact Nat.le_refl _)] at hg
    unfold rf_go at hg
    injection hg with hg
    subst hg
    have hq2 := HQ.out
    replace hq2 := oB hq2
    obtain ⟨ec, hE, hq2⟩ := hq2
    simp only [Option.some.injEq, Prod.mk.injEq] at hq2
    have hn4 := HJ.out.2.2
    obtain ⟨n0, n1, n2, n3, rfl⟩ : ∃ n0 n1 n2 n3, ns = [n0, n1, n2, n3] := rf_four hn4
    replace hE : pascalineref02_Check.f k op n0 0 0 0 = some ec := hE
    obtain ⟨rfl, q1, q2, q3, q4, rfl⟩ := hq2
    replace q1 : n0 = r2 := q1
    replace q2 : 0 = r3 := q2
    replace q3 : 0 = r4 := q3
    replace q4 : 0 = r5 := q4
    subst q1 q2 q3 q4
    have HE := mK hE
    subst hjl
    replace HN2 := mK (show wr.heap[Wa0.heap.size]? = some (.cells #[.int .i64 n0, .int .i64 n1, .int .i64 n2, .int .i64 n3] 71 (0, 0)) from HN2.out)
    obtain ⟨cn0, cn1, cn2, cn3, -, -, -, -⟩ := cf4 HN2.out
    clear hE hn4 hj
    go_upto_region 40 with (first | ((with_reducible refine gate_store (t := 3) (p := 104) rfl ?_); refine store_event (t := 3) (p := 104) (v := ?vt1) (w1 := (wr.setCell ⟨w.heap.size + 1, 1, none⟩ (.int .i64 n0))) ?hg ?ho ?hn ?hr ?_; (case ho => rfl); (case hg => rfl); (case hn => rfl); (case hr => (have hz5 := kF HI2.out 1; have hc5 : wr.cell? ⟨w.heap.size + 1, 1, none⟩ = some (.int .i64 0) := kC HI2.out 1; first | (go_simp; done) | (go_simp; rfl))); intro wf0 hw; obtain ⟨a1, a2, a3, a4⟩ := rf_st HI2.out HN2.out HZ2.out HB2.out (by decide) 1 (.int .i64 n0) (cs' := #[.int .i64 op, .int .i64 n0, .int .i64 0, .int .i64 0, .int .i64 0]) rfl; rw [← hw] at a1 a2 a3 a4; have HI20 := mK a1; have HN20 := mK a2; have HZ20 := mK a3; have HB20 := mK a4; clear a1 a2 a3 a4; have ck0 : wf0.cell? ⟨Wa0.heap.size, 1, none⟩ = some (.int .i64 n1) := kC HN20.out 1; clear hw))
    have hzb := HZ20.out; have hib := HI20.out; obtain ⟨ci0, ci1, ci2, ci3, ci4, -⟩ := rf_cf HI20.out
    go_region_held3 (fun w' => w'.cell? ⟨w.heap.size + 1, 0, none⟩ = some (.int .i64 op) ∧ w'.cell? ⟨w.heap.size + 1, 1, none⟩ = some (.int .i64 n0) ∧ w'.cell? ⟨w.heap.size + 1, 2, none⟩ = some (.int .i64 0) ∧ w'.cell? ⟨w.heap.size + 1, 3, none⟩ = some (.int .i64 0) ∧ w'.cell? ⟨w.heap.size + 1, 4, none⟩ = some (.int .i64 0)) (first | with_reducible exact ⟨gi0, gi1, gi2, gi3, gi4⟩ | with_reducible exact rf_far5 HI5.out _ _ _ _ _ | exact ⟨ci0, ci1, ci2, ci3, ci4⟩) (first | (go_at_call 25; ((with_reducible refine (pascalineref02_Check.calls k _ _ _ _ _ ec _ HE.out).mono ?_)); rintro e w5 ⟨rfl, hb⟩; have hS := bP (below_drew (Below.refl wf0.heap.size wf0)) hb; have HZ5 := mK (kB HZ20.out hS); have HI5 := mK (kB HI20.out hS); have HB5 := mK (bP HB20.out hS); have hzb5 := HZ5.out; obtain ⟨gc0, gc1, gc2, gc3, gc4, gz0, gz1, gz2, gz3, gz4⟩ := rf_cf HZ5.out; obtain ⟨gi0, gi1, gi2, gi3, gi4, -⟩ := rf_cf HI5.out; clear hb hS))
    go_wp2
    (try rw [Exit.noGoto_ret])
    refine bodyPost_ret (results_list (rs := [.cell 4 31, .tmp 5]) rfl (by simp) (.cell w.heap.size 31 #[.int .i64 op, .int .i64 n0, .int .i64 0, .int .i64 0, .int .i64 0] (0, 0) _ rfl (rf_five HZ5.out _ _ _ _ _) Try.underlying31 rfl (by kernel_rfl) (.tmp .nil))) rfl ?_
    exact ⟨rfl, rf_fiveb HB5.out (Nat.le_refl _) _ _ _ _ _⟩
 ·
  rw [if_neg (show ¬ l1.length = ([rf_r]).length from hl)] at HH1
  cases HH1
  have hlb : ((l1.length : Int) != 1) = true := bne_iff_ne.mpr (by omega)
  have hzb := HZ.out; have hib := HI.out; obtain ⟨cz0, cz1, cz2, cz3, cz4, fz0, fz1, fz2, fz3, fz4⟩ := rf_cf HZ.out; obtain ⟨ci0, ci1, ci2, ci3, ci4, fi0, fi1, fi2, fi3, fi4⟩ := rf_cf HI.out
  clear hl
  go_wp2
  refine bodyPost_ret (results_list (rs := [.cell 4 31, .tmp 5]) rfl (by simp) (.cell w.heap.size 31 #[.int .i64 op, .int .i64 0, .int .i64 0, .int .i64 0, .int .i64 0] (0, 0) _ rfl (rf_five HZ.out _ _ _ _ _) Try.underlying31 rfl (by kernel_rfl) (.tmp .nil))) rfl ?_
  exact ⟨rfl, rf_fiveb HB.out (Nat.le_refl _) _ _ _ _ _⟩
set_option maxHeartbeats 4000000 in
set_option maxRecDepth 100000 in
theorem rf_caseI (k : Nat) (op s : Int) (A1 : Option Addr) (c1 : Nat) (l1 : List ByteArray) (r1 r2 r3 r4 r5 : Int) (r6 : Bool) (w : World) (hr1 : Kd.C Kd.string w A1 l1.length l1) (hc1 : l1.length ≤ c1)
 (HS : Aside0 (pascalineref02_Shape.f k op = some s)) (hA : Aside0 (pascalineref02_has.f s = some (false, false, false))) (hn : decide (s < 0) = false) (b0 : (s != 0) = true) (b5 : (s != 5) = true) (b6 : (s != 6) = true)
 (HH : Aside0 (rf_rest k op l1 [rf_e] (fun ns => (0, 0, 0, rf_nd ns 0)) = some (r1, r2, r3, r4, r5, r6))) :
 Calls Try.prog 23 #[.int .i64 op, .slice A1 l1.length c1] w fun e w' => e = .returned (.tuple #[.agg #[.int .i64 r1, .int .i64 r2, .int .i64 r3, .int .i64 r4, .int .i64 r5], .bool r6]) ∧ Below w.heap.size w w' := by
 have HR1 := mK hr1
 clear hr1
 go_enter Try.func23, Try.ntmps23
 go_upto_region 7 with (first | (go_at_call 14; ((with_reducible refine (pascalineref02_Shape.calls k op s _ HS.out).mono ?_)); rintro e w' ⟨rfl, ⟨nd, rfl⟩⟩) | (go_at_call 30; ((with_reducible refine (pascalineref02_has.calls s false false false _ hA.out).mono ?_)); rintro e w' ⟨rfl, ⟨nd2, rfl⟩⟩))
 obtain ⟨g0, g1, g2, g3⟩ := rf_start w (.cells #[.int .i64 0, .int .i64 0, .int .i64 0, .int .i64 0, .int .i64 0] 31) (.cells #[.int .i64 op, .int .i64 0, .int .i64 0, .int .i64 0, .int .i64 0] 31) (nd + nd2)
 obtain ⟨W0, hW0⟩ : ∃ W0, ((((w.alloc (.cells #[.int .i64 0, .int .i64 0, .int .i64 0, .int .i64 0, .int .i64 0] 31)).alloc (.cells #[.int .i64 op, .int .i64 0, .int .i64 0, .int .i64 0, .int .i64 0] 31)).drewN (nd + nd2)).alloc (.cells #[] 9)) = W0 := ⟨_, rfl⟩
 rw [hW0] at g0 g1 g2 g3 ⊢
 have HZ := mK g0; have HI := mK g1; have HB := mK g2; have HO := mK g3
 clear g0 g1 g2 g3 hW0
 go_upto_region 18 with (first | ((with_reducible refine gate_builtin (b := .append) (xs := #[.tmp 67, .tmp 68]) rfl ?_); at_builtin; refine Kd.R_append Kd.string (w0 := w) w.heap.size rfl (.tmp 67) (.tmp 68) 45 9 (.string ⟨#[]⟩) 16 rfl Try.underlying45 info9 rfl (by decide) (by omega) (.slice (some ⟨w.heap.size + 1 + 1, 0, none⟩) 0 0) ([] : List ByteArray) (⟨#[]⟩ : ByteArray) [.string (⟨#[]⟩ : ByteArray)] (fun _ => True) (fun _ => False) rfl rfl ?aP0 (fun _ hk => hk.elim) ?aF0 ?aO0 ?aB0 ?aS0 ?aL0 ?_; (case aP0 => exact rfl); (case aB0 => exact (by repeat (first | (with_reducible first | exact HB.out | apply bA | apply bN | apply bD) | exact HB.out))); (case aF0 => exact (fun _ _ => trivial)); (case aO0 => exact (by (with_reducible repeat (first | apply Kd.R_alloc | apply Kd.R_drewN | apply Kd.R_drew)); exact HO.out)); (case aS0 => exact (bZ (by repeat (first | (with_reducible first | exact HB.out | apply bA | apply bN | apply bD) | exact HB.out)))); (case aL0 => (simp only [List.length_cons, List.length_nil]; omega)); intro v0 Wa0 ho hb hg hat; have n0_ := mK (blk_grown (g := w.heap.size + 1) (o := .cells #[.int .i64 op, .int .i64 0, .int .i64 0, .int .i64 0, .int .i64 0] 31) HI.out hg (Kd.R_ne HO.out HI.out (by decide))); have n1_ := mK (blk_grown (g := w.heap.size) (o := .cells #[.int .i64 0, .int .i64 0, .int .i64 0, .int .i64 0, .int .i64 0] 31) HZ.out hg (Kd.R_ne HO.out HZ.out (by decide))); obtain ⟨X0, y0, e1, hy0, -⟩ := Kd.R_reads ho; replace e1 : v0 = .slice X0 1 y0 := e1; subst e1; have n2_ := mK hb; have n3_ := mK (show Kd.R Kd.string 9 Wa0 w.heap.size (fun _ => True) (.slice X0 1 y0) [(⟨#[]⟩ : ByteArray)] from ho); clear HI HZ HB HO; have HI := n0_; have HZ := n1_; have HB := n2_; have HO := n3_; clear n0_ n1_ n2_ n3_ hg hat ho hb hy0))
 have HH1 := HH.out
 clear HH
 unfold rf_rest at HH1
 by_cases hl : l1.length = 1
 ·
  rw [if_pos (show l1.length = ([rf_e]).length from hl)] at HH1
  replace HH1 := oB HH1
  obtain ⟨q, hq, HH1⟩ := HH1
  have HQ := mK HH1; have HL := mK hl
  have hlb : ((l1.length : Int) != 1) = false := by rw [hl]; rfl
  clear HH1 hl
  have HGE := mK (bZ HB.out)
  go_wp2
  go_loopg [14] (2) (fun kx v14 wr => ∃ (j : Nat) (ns : List Int), v14 = .int .i64 j ∧ Aside0 (j + kx = 2 ∧ j ≤ 1 ∧ ns.length = 4) ∧ Aside0 (rf_go k l1 (List.drop j [rf_e]) j ns = some q) ∧ Aside0 (wr.heap[Wa0.heap.size]? = some (.cells (ns.map (fun n => Value.int .i64 n)).toArray 71 (0, 0))) ∧ Aside0 (wr.heap[w.heap.size + 1]? = some (o5 op 0 0 0 0 31)) ∧ Aside0 (wr.heap[w.heap.size]? = some (o5 0 0 0 0 0 31)) ∧ Aside0 (Kd.R Kd.string 9 wr w.heap.size (fun _ => True) (.slice X0 1 y0) [rf_e]) ∧ Aside0 (Below w.heap.size w wr))
  case atStart => exact ⟨0, [0, 0, 0, 0], rfl, ⟨⟨by omega, by omega, rfl⟩⟩, ⟨hq⟩, ⟨blk_new _ _⟩, ⟨kA HI.out _⟩, ⟨kA HZ.out _⟩, ⟨Kd.R_alloc HO.out _⟩, ⟨bA HB.out _⟩⟩
  case round =>
   obtain ⟨j, ns, rfl, HJ, HGo, HN2, HI2, HZ2, HO2, HB2⟩ := hrel
   by_cases hj : j < 1
   ·
    have hg := HGo.out
    have hjl : j < ([rf_e]).length := hj
    rw [List.drop_eq_getElem_cons hjl] at hg
    unfold rf_go at hg
    replace hg := oB hg
    obtain ⟨⟨x1, ok1⟩, hNu, hg⟩ := hg
    obtain ⟨ad, e, hx⟩ := Kd.at_string HR1.out (j : Int) (by omega) (by have := HL.out; omega)
    cases e
    rw [Int.toNat_natCast] at hx
    obtain ⟨ae, e, hy⟩ := Kd.at_string (Kd.R_reads' HO2.out).2.2 (j : Int) (by omega) (by show (j : Int) < ((1 : Nat) : Int); omega)
    cases e
    rw [Int.toNat_natCast, rdOf_at_ _ _ hjl] at hy
    have hx2 := kW HB2.out hx
    have p1 : (0 ≤ (j : Int)) = True := eq_true (by omega)
    have p2 : ((j : Int) < 1) = True := eq_true (by omega)
    have p3 : ((j : Int) < (l1.length : Int)) = True := eq_true (by have := HL.out; omega)
    have p4 : decide ((j : Int) < 1) = true := decide_eq_true (by omega)
    have p5 : decide (j < 1) = true := decide_eq_true hj
    have p6 : (j < 1) = True := eq_true hj
    have p7 : (j < l1.length) = True := eq_true (by have := HL.out; omega)
    have p8 : ((j : Int) < 4) = True := eq_true (by omega)
    have p9 : (j < 4) = True := eq_true (by omega)
    have hw1 : wrap64 ((j : Int) + 1) = ((j + 1 : Nat) : Int) := by unfold wrap64; omega
    generalize ([rf_e])[j] = hd at hNu hy
    generalize rdOf ByteArray.empty l1 (j : Int) = str at hNu hx hx2
    have HNu := mK hNu
    have HJ2 := mK hj
    have HX := mK (And.intro hy hx2)
    have HG3 := mK hg
    clear hNu hj hjl hx hg HGo
    have hs8 : 8 ≤ 8 := Nat.le_refl _
    clear hs8
    go_wp2
    go_region_held3 (fun w' => w'.cell? (ae.add j) = some (.string hd) ∧ w'.cell? (ad.add j) = some (.string str)) (first | with_reducible exact ⟨hy5, hx5⟩ | exact ⟨hy, hx2⟩) (first | (go_at_call 35; ((with_reducible refine (pascalineref02_number.calls k hd str x1 ok1 _ HNu.out).mono ?_)); rintro e w5 ⟨rfl, hb⟩; have hS := bP (below_drew (Below.refl wr.heap.size wr)) hb; have HN5 := mK (kB HN2.out hS); have HI5 := mK (kB HI2.out hS); have HZ5 := mK (kB HZ2.out hS); have HO5 := mK (Kd.R_below HO2.out hS); have HB5 := mK (bP HB2.out hS); have hy5 := kW hS HX.out.1; have hx5 := kW hS HX.out.2; clear hb hS))
    cases ok1 with
    | false =>
     have hg := HG3.out
     rw [if_neg (by simp)] at hg
     injection hg with hg
     subst hg
     have hq2 := HQ.out
     cases hq2
     have hzb := HZ5.out; have hib := HI5.out; obtain ⟨cz0, cz1, cz2, cz3, cz4, fz0, fz1, fz2, fz3, fz4⟩ := rf_cf HZ5.out; obtain ⟨ci0, ci1, ci2, ci3, ci4, fi0, fi1, fi2, fi3, fi4⟩ := rf_cf HI5.out
     go_wp2
     (try rw [Exit.noGoto_ret])
     refine bodyPost_ret (results_list (rs := [.cell 4 31, .tmp 5]) rfl (by simp) (.cell w.heap.size 31 #[.int .i64 op, .int .i64 0, .int .i64 0, .int .i64 0, .int .i64 0] (0, 0) _ rfl (rf_five HZ5.out _ _ _ _ _) Try.underlying31 rfl (by kernel_rfl) (.tmp .nil))) rfl ?_
     exact ⟨rfl, rf_fiveb HB5.out (Nat.le_refl _) _ _ _ _ _⟩
    | true =>
     have hg := HG3.out
     rw [if_pos rfl] at hg
     have HG2 := mK hg
     clear hg HG3
     have hns : j < ns.length := by have := HJ.out; have := HJ2.out; omega
     have HNS := mK hns
     clear hns
     go_wp2_with (first | ((with_reducible refine gate_store (t := 3) (p := 99) rfl ?_); refine store_event (t := 3) (p := 99) (v := ?vs1) (w1 := (w5.setCell ⟨Wa0.heap.size, j, none⟩ (.int .i64 x1))) ?hg ?ho ?hn ?hr ?_; (case ho => rfl); (case hg => rfl); (case hn => rfl); (case hr => (have hz5 := kF HN5.out j; have hc5 : w5.cell? ⟨Wa0.heap.size, j, none⟩ = some (.int .i64 (ns[j]'HNS.out)) := (kC HN5.out j).trans (by simp [HNS.out]); first | (go_simp; done) | (go_simp; rfl))); intro w6 hw; have HN6 := mK (show w6.heap[Wa0.heap.size]? = some (.cells ((ns.set j x1).map (fun n => Value.int .i64 n)).toArray 71 (0, 0)) from (by rw [hw]; exact kP HN5.out j _ (by rw [List.setIfInBounds_toArray, List.map_set]))); have HI6 := mK (show w6.heap[w.heap.size + 1]? = some (o5 op 0 0 0 0 31) from (by rw [hw]; exact kR HI5.out (blk_ne HI5.out HN5.out (by decide)) _)); have HZ6 := mK (show w6.heap[w.heap.size]? = some (o5 0 0 0 0 0 31) from (by rw [hw]; exact kR HZ5.out (blk_ne HZ5.out HN5.out (by decide)) _)); have HO6 := mK (show Kd.R Kd.string 9 w6 w.heap.size (fun _ => True) (.slice (some ae) 1 y0) [rf_e] from (by rw [hw]; exact Kd.R_set HO5.out HN5.out (by decide) j _)); have HB6 := mK (show Below w.heap.size w w6 from (by rw [hw]; exact bS HB5.out HGE.out)); clear hw))
     go_roundg (1 - j)
     case measure => have h1 := HJ.out; have h2 := HJ2.out; omega
     case rel => exact ⟨j + 1, ns.set j x1, (by first | rfl | exact congrArg _ hw1 | (rw [hw1]; rfl)), ⟨by have h1 := HJ.out; have h2 := HJ2.out; exact ⟨by omega, by omega, by rw [List.length_set]; exact h1.2.2⟩⟩, HG2, HN6, HI6, HZ6, HO6, HB6⟩
   ·
    have hjl : j = 1 := by have := HJ.out; omega
    have hg := HGo.out
    rw [List.drop_eq_nil_of_le (by rw [hjl]; exact Nat.le_refl _)] at hg
    unfold rf_go at hg
    injection hg with hg
    subst hg
    have hq2 := HQ.out
    replace hq2 := oB hq2
    obtain ⟨ec, hE, hq2⟩ := hq2
    simp only [Option.some.injEq, Prod.mk.injEq] at hq2
    have hn4 := HJ.out.2.2
    obtain ⟨n0, n1, n2, n3, rfl⟩ : ∃ n0 n1 n2 n3, ns = [n0, n1, n2, n3] := rf_four hn4
    replace hE : pascalineref02_Check.f k op 0 0 0 n0 = some ec := hE
    obtain ⟨rfl, q1, q2, q3, q4, rfl⟩ := hq2
    replace q1 : 0 = r2 := q1
    replace q2 : 0 = r3 := q2
    replace q3 : 0 = r4 := q3
    replace q4 : n0 = r5 := q4
    subst q1 q2 q3 q4
    have HE := mK hE
    subst hjl
    replace HN2 := mK (show wr.heap[Wa0.heap.size]? = some (.cells #[.int .i64 n0, .int .i64 n1, .int .i64 n2, .int .i64 n3] 71 (0, 0)) from HN2.out)
    obtain ⟨cn0, cn1, cn2, cn3, -, -, -, -⟩ := cf4 HN2.out
    clear hE hn4 hj
    go_upto_region 40 with (first | ((with_reducible refine gate_store (t := 3) (p := 125) rfl ?_); refine store_event (t := 3) (p := 125) (v := ?vt4) (w1 := (wr.setCell ⟨w.heap.size + 1, 4, none⟩ (.int .i64 n0))) ?hg ?ho ?hn ?hr ?_; (case ho => rfl); (case hg => rfl); (case hn => rfl); (case hr => (have hz5 := kF HI2.out 4; have hc5 : wr.cell? ⟨w.heap.size + 1, 4, none⟩ = some (.int .i64 0) := kC HI2.out 4; first | (go_simp; done) | (go_simp; rfl))); intro wf0 hw; obtain ⟨a1, a2, a3, a4⟩ := rf_st HI2.out HN2.out HZ2.out HB2.out (by decide) 4 (.int .i64 n0) (cs' := #[.int .i64 op, .int .i64 0, .int .i64 0, .int .i64 0, .int .i64 n0]) rfl; rw [← hw] at a1 a2 a3 a4; have HI20 := mK a1; have HN20 := mK a2; have HZ20 := mK a3; have HB20 := mK a4; clear a1 a2 a3 a4; have ck0 : wf0.cell? ⟨Wa0.heap.size, 1, none⟩ = some (.int .i64 n1) := kC HN20.out 1; clear hw))
    have hzb := HZ20.out; have hib := HI20.out; obtain ⟨ci0, ci1, ci2, ci3, ci4, -⟩ := rf_cf HI20.out
    go_region_held3 (fun w' => w'.cell? ⟨w.heap.size + 1, 0, none⟩ = some (.int .i64 op) ∧ w'.cell? ⟨w.heap.size + 1, 1, none⟩ = some (.int .i64 0) ∧ w'.cell? ⟨w.heap.size + 1, 2, none⟩ = some (.int .i64 0) ∧ w'.cell? ⟨w.heap.size + 1, 3, none⟩ = some (.int .i64 0) ∧ w'.cell? ⟨w.heap.size + 1, 4, none⟩ = some (.int .i64 n0)) (first | with_reducible exact ⟨gi0, gi1, gi2, gi3, gi4⟩ | with_reducible exact rf_far5 HI5.out _ _ _ _ _ | exact ⟨ci0, ci1, ci2, ci3, ci4⟩) (first | (go_at_call 25; ((with_reducible refine (pascalineref02_Check.calls k _ _ _ _ _ ec _ HE.out).mono ?_)); rintro e w5 ⟨rfl, hb⟩; have hS := bP (below_drew (Below.refl wf0.heap.size wf0)) hb; have HZ5 := mK (kB HZ20.out hS); have HI5 := mK (kB HI20.out hS); have HB5 := mK (bP HB20.out hS); have hzb5 := HZ5.out; obtain ⟨gc0, gc1, gc2, gc3, gc4, gz0, gz1, gz2, gz3, gz4⟩ := rf_cf HZ5.out; obtain ⟨gi0, gi1, gi2, gi3, gi4, -⟩ := rf_cf HI5.out; clear hb hS))
    go_wp2
    (try rw [Exit.noGoto_ret])
    refine bodyPost_ret (results_list (rs := [.cell 4 31, .tmp 5]) rfl (by simp) (.cell w.heap.size 31 #[.int .i64 op, .int .i64 0, .int .i64 0, .int .i64 0, .int .i64 n0] (0, 0) _ rfl (rf_five HZ5.out _ _ _ _ _) Try.underlying31 rfl (by kernel_rfl) (.tmp .nil))) rfl ?_
    exact ⟨rfl, rf_fiveb HB5.out (Nat.le_refl _) _ _ _ _ _⟩
 ·
  rw [if_neg (show ¬ l1.length = ([rf_e]).length from hl)] at HH1
  cases HH1
  have hlb : ((l1.length : Int) != 1) = true := bne_iff_ne.mpr (by omega)
  have hzb := HZ.out; have hib := HI.out; obtain ⟨cz0, cz1, cz2, cz3, cz4, fz0, fz1, fz2, fz3, fz4⟩ := rf_cf HZ.out; obtain ⟨ci0, ci1, ci2, ci3, ci4, fi0, fi1, fi2, fi3, fi4⟩ := rf_cf HI.out
  clear hl
  go_wp2
  refine bodyPost_ret (results_list (rs := [.cell 4 31, .tmp 5]) rfl (by simp) (.cell w.heap.size 31 #[.int .i64 op, .int .i64 0, .int .i64 0, .int .i64 0, .int .i64 0] (0, 0) _ rfl (rf_five HZ.out _ _ _ _ _) Try.underlying31 rfl (by kernel_rfl) (.tmp .nil))) rfl ?_
  exact ⟨rfl, rf_fiveb HB.out (Nat.le_refl _) _ _ _ _ _⟩
set_option maxHeartbeats 4000000 in
set_option maxRecDepth 100000 in
theorem rf_caseN (k : Nat) (op s : Int) (A1 : Option Addr) (c1 : Nat) (l1 : List ByteArray) (r1 r2 r3 r4 r5 : Int) (r6 : Bool) (w : World) (hr1 : Kd.C Kd.string w A1 l1.length l1) (hc1 : l1.length ≤ c1)
 (HS : Aside0 (pascalineref02_Shape.f k op = some s)) (hA : Aside0 (pascalineref02_has.f s = some (false, false, false))) (hn : decide (s < 0) = false) (b0 : (s != 0) = false)
 (HH : Aside0 (rf_rest k op l1 ([] : List ByteArray) (fun ns => (0, 0, 0, 0)) = some (r1, r2, r3, r4, r5, r6))) :
 Calls Try.prog 23 #[.int .i64 op, .slice A1 l1.length c1] w fun e w' => e = .returned (.tuple #[.agg #[.int .i64 r1, .int .i64 r2, .int .i64 r3, .int .i64 r4, .int .i64 r5], .bool r6]) ∧ Below w.heap.size w w' := by
 have HR1 := mK hr1
 clear hr1
 go_enter Try.func23, Try.ntmps23
 go_upto_region 7 with (first | (go_at_call 14; ((with_reducible refine (pascalineref02_Shape.calls k op s _ HS.out).mono ?_)); rintro e w' ⟨rfl, ⟨nd, rfl⟩⟩) | (go_at_call 30; ((with_reducible refine (pascalineref02_has.calls s false false false _ hA.out).mono ?_)); rintro e w' ⟨rfl, ⟨nd2, rfl⟩⟩))
 obtain ⟨g0, g1, g2, g3⟩ := rf_start w (.cells #[.int .i64 0, .int .i64 0, .int .i64 0, .int .i64 0, .int .i64 0] 31) (.cells #[.int .i64 op, .int .i64 0, .int .i64 0, .int .i64 0, .int .i64 0] 31) (nd + nd2)
 obtain ⟨W0, hW0⟩ : ∃ W0, ((((w.alloc (.cells #[.int .i64 0, .int .i64 0, .int .i64 0, .int .i64 0, .int .i64 0] 31)).alloc (.cells #[.int .i64 op, .int .i64 0, .int .i64 0, .int .i64 0, .int .i64 0] 31)).drewN (nd + nd2)).alloc (.cells #[] 9)) = W0 := ⟨_, rfl⟩
 rw [hW0] at g0 g1 g2 g3 ⊢
 have HZ := mK g0; have HI := mK g1; have HB := mK g2; have HO := mK g3
 clear g0 g1 g2 g3 hW0
 go_upto_region 18 with fail
 have HH1 := HH.out
 clear HH
 unfold rf_rest at HH1
 by_cases hl : l1.length = 0
 ·
  rw [if_pos (show l1.length = (([] : List ByteArray)).length from hl)] at HH1
  replace HH1 := oB HH1
  obtain ⟨q, hq, HH1⟩ := HH1
  have HQ := mK HH1; have HL := mK hl
  have hlb : ((l1.length : Int) != 0) = false := by rw [hl]; rfl
  clear HH1 hl
  have HGE := mK (bZ HB.out)
  go_wp2
  go_loopg [14] (1) (fun kx v14 wr => ∃ (j : Nat) (ns : List Int), v14 = .int .i64 j ∧ Aside0 (j + kx = 1 ∧ j ≤ 0 ∧ ns.length = 4) ∧ Aside0 (rf_go k l1 (List.drop j ([] : List ByteArray)) j ns = some q) ∧ Aside0 (wr.heap[W0.heap.size]? = some (.cells (ns.map (fun n => Value.int .i64 n)).toArray 71 (0, 0))) ∧ Aside0 (wr.heap[w.heap.size + 1]? = some (o5 op 0 0 0 0 31)) ∧ Aside0 (wr.heap[w.heap.size]? = some (o5 0 0 0 0 0 31)) ∧ Aside0 (Kd.R Kd.string 9 wr w.heap.size (fun _ => True) (.slice (some ⟨w.heap.size + 1 + 1, 0, none⟩) 0 0) ([] : List ByteArray)) ∧ Aside0 (Below w.heap.size w wr))
  case atStart => exact ⟨0, [0, 0, 0, 0], rfl, ⟨⟨by omega, by omega, rfl⟩⟩, ⟨hq⟩, ⟨blk_new _ _⟩, ⟨kA HI.out _⟩, ⟨kA HZ.out _⟩, ⟨Kd.R_alloc HO.out _⟩, ⟨bA HB.out _⟩⟩
  case round =>
   obtain ⟨j, ns, rfl, HJ, HGo, HN2, HI2, HZ2, HO2, HB2⟩ := hrel
   have hj : ¬ j < 0 := by omega
   ·
    have hjl : j = 0 := by have := HJ.out; omega
    have hg := HGo.out
    rw [List.drop_eq_nil_of_le (by rw [hjl]; exact Nat.le_refl _)] at hg
    unfold rf_go at hg
    injection hg with hg
    subst hg
    have hq2 := HQ.out
    replace hq2 := oB hq2
    obtain ⟨ec, hE, hq2⟩ := hq2
    simp only [Option.some.injEq, Prod.mk.injEq] at hq2
    have hn4 := HJ.out.2.2
    obtain ⟨n0, n1, n2, n3, rfl⟩ : ∃ n0 n1 n2 n3, ns = [n0, n1, n2, n3] := rf_four hn4
    replace hE : pascalineref02_Check.f k op 0 0 0 0 = some ec := hE
    obtain ⟨rfl, q1, q2, q3, q4, rfl⟩ := hq2
    replace q1 : 0 = r2 := q1
    replace q2 : 0 = r3 := q2
    replace q3 : 0 = r4 := q3
    replace q4 : 0 = r5 := q4
    subst q1 q2 q3 q4
    have HE := mK hE
    subst hjl
    replace HN2 := mK (show wr.heap[W0.heap.size]? = some (.cells #[.int .i64 n0, .int .i64 n1, .int .i64 n2, .int .i64 n3] 71 (0, 0)) from HN2.out)
    obtain ⟨cn0, cn1, cn2, cn3, -, -, -, -⟩ := cf4 HN2.out
    clear hE hn4 hj
    go_upto_region 40 with fail
    have hzb := HZ2.out; have hib := HI2.out; obtain ⟨ci0, ci1, ci2, ci3, ci4, -⟩ := rf_cf HI2.out
    go_region_held3 (fun w' => w'.cell? ⟨w.heap.size + 1, 0, none⟩ = some (.int .i64 op) ∧ w'.cell? ⟨w.heap.size + 1, 1, none⟩ = some (.int .i64 0) ∧ w'.cell? ⟨w.heap.size + 1, 2, none⟩ = some (.int .i64 0) ∧ w'.cell? ⟨w.heap.size + 1, 3, none⟩ = some (.int .i64 0) ∧ w'.cell? ⟨w.heap.size + 1, 4, none⟩ = some (.int .i64 0)) (first | with_reducible exact ⟨gi0, gi1, gi2, gi3, gi4⟩ | with_reducible exact rf_far5 HI5.out _ _ _ _ _ | exact ⟨ci0, ci1, ci2, ci3, ci4⟩) (first | (go_at_call 25; ((with_reducible refine (pascalineref02_Check.calls k _ _ _ _ _ ec _ HE.out).mono ?_)); rintro e w5 ⟨rfl, hb⟩; have hS := bP (below_drew (Below.refl wr.heap.size wr)) hb; have HZ5 := mK (kB HZ2.out hS); have HI5 := mK (kB HI2.out hS); have HB5 := mK (bP HB2.out hS); have hzb5 := HZ5.out; obtain ⟨gc0, gc1, gc2, gc3, gc4, gz0, gz1, gz2, gz3, gz4⟩ := rf_cf HZ5.out; obtain ⟨gi0, gi1, gi2, gi3, gi4, -⟩ := rf_cf HI5.out; clear hb hS))
    go_wp2
    (try rw [Exit.noGoto_ret])
    refine bodyPost_ret (results_list (rs := [.cell 4 31, .tmp 5]) rfl (by simp) (.cell w.heap.size 31 #[.int .i64 op, .int .i64 0, .int .i64 0, .int .i64 0, .int .i64 0] (0, 0) _ rfl (rf_five HZ5.out _ _ _ _ _) Try.underlying31 rfl (by kernel_rfl) (.tmp .nil))) rfl ?_
    exact ⟨rfl, rf_fiveb HB5.out (Nat.le_refl _) _ _ _ _ _⟩
 ·
  rw [if_neg (show ¬ l1.length = (([] : List ByteArray)).length from hl)] at HH1
  cases HH1
  have hlb : ((l1.length : Int) != 0) = true := bne_iff_ne.mpr (by omega)
  have hzb := HZ.out; have hib := HI.out; obtain ⟨cz0, cz1, cz2, cz3, cz4, fz0, fz1, fz2, fz3, fz4⟩ := rf_cf HZ.out; obtain ⟨ci0, ci1, ci2, ci3, ci4, fi0, fi1, fi2, fi3, fi4⟩ := rf_cf HI.out
  clear hl
  go_wp2
  refine bodyPost_ret (results_list (rs := [.cell 4 31, .tmp 5]) rfl (by simp) (.cell w.heap.size 31 #[.int .i64 op, .int .i64 0, .int .i64 0, .int .i64 0, .int .i64 0] (0, 0) _ rfl (rf_five HZ.out _ _ _ _ _) Try.underlying31 rfl (by kernel_rfl) (.tmp .nil))) rfl ?_
  exact ⟨rfl, rf_fiveb HB.out (Nat.le_refl _) _ _ _ _ _⟩
set_option maxHeartbeats 4000000 in
set_option maxRecDepth 100000 in
theorem rf_caseNo (k : Nat) (op s : Int) (A1 : Option Addr) (c1 : Nat) (l1 : List ByteArray) (w : World) (hc1 : l1.length ≤ c1)
 (HS : Aside0 (pascalineref02_Shape.f k op = some s)) (hn : decide (s < 0) = true) :
 Calls Try.prog 23 #[.int .i64 op, .slice A1 l1.length c1] w fun e w' => e = .returned (.tuple #[.agg #[.int .i64 op, .int .i64 0, .int .i64 0, .int .i64 0, .int .i64 0], .bool false]) ∧ Below w.heap.size w w' := by
 go_enter Try.func23, Try.ntmps23
 go_upto_region 4 with (first | (go_at_call 14; ((with_reducible refine (pascalineref02_Shape.calls k op s _ HS.out).mono ?_)); rintro e w' ⟨rfl, ⟨nd, rfl⟩⟩))
 obtain ⟨g0, g1, g2⟩ := rf_no w (.cells #[.int .i64 0, .int .i64 0, .int .i64 0, .int .i64 0, .int .i64 0] 31) (.cells #[.int .i64 op, .int .i64 0, .int .i64 0, .int .i64 0, .int .i64 0] 31) nd
 obtain ⟨W0, hW0⟩ : ∃ W0, (((w.alloc (.cells #[.int .i64 0, .int .i64 0, .int .i64 0, .int .i64 0, .int .i64 0] 31)).alloc (.cells #[.int .i64 op, .int .i64 0, .int .i64 0, .int .i64 0, .int .i64 0] 31)).drewN nd) = W0 := ⟨_, rfl⟩
 rw [hW0] at g0 g1 g2 ⊢
 have HZ := mK g0; have HI := mK g1; have HB := mK g2
 clear g0 g1 g2 hW0
 have hzb := HZ.out; have hib := HI.out
 obtain ⟨cz0, cz1, cz2, cz3, cz4, fz0, fz1, fz2, fz3, fz4⟩ := rf_cf HZ.out
 obtain ⟨ci0, ci1, ci2, ci3, ci4, fi0, fi1, fi2, fi3, fi4⟩ := rf_cf HI.out
 go_wp2
 refine bodyPost_ret (results_list (rs := [.cell 4 31, .tmp 5]) rfl (by simp) (.cell w.heap.size 31 #[.int .i64 op, .int .i64 0, .int .i64 0, .int .i64 0, .int .i64 0] (0, 0) _ rfl (rf_five HZ.out _ _ _ _ _) Try.underlying31 rfl (by kernel_rfl) (.tmp .nil))) rfl ?_
 exact ⟨rfl, rf_fiveb HB.out (Nat.le_refl _) _ _ _ _ _⟩
set_option maxHeartbeats 4000000 in
theorem pascalineref02_Fill.calls (k : Nat) (op : Int) (A1 : Option Addr) (c1 : Nat) (l1 : List ByteArray) (r1 r2 r3 r4 r5 : Int) (r6 : Bool) (w : World) (hr1 : Kd.C Kd.string w A1 l1.length l1) (hc1 : l1.length ≤ c1)
 (h : pascalineref02_Fill.f k op l1 = some (r1, r2, r3, r4, r5, r6)) :
 Calls Try.prog 23 #[.int .i64 op, .slice A1 l1.length c1] w fun e w' => e = .returned (.tuple #[.agg #[.int .i64 r1, .int .i64 r2, .int .i64 r3, .int .i64 r4, .int .i64 r5], .bool r6]) ∧ Below w.heap.size w w' := by
 unfold pascalineref02_Fill.f at h
 replace h := oB h
 obtain ⟨s, hS, h⟩ := h
 have e0 : ∀ n : Int, s ≠ n → (s != n) = true := fun n h => bne_iff_ne.mpr h
 have e1 : ∀ n : Int, s = n → (s != n) = false := fun n h => by rw [h]; simp
 by_cases h0 : s < 0
 ·
  rw [if_pos h0] at h
  cases h
  exact rf_caseNo k op s A1 c1 l1 w hc1 ⟨hS⟩ (decide_eq_true h0)
 rw [if_neg h0] at h
 have hn : decide (s < 0) = false := decide_eq_false h0
 by_cases h1 : s = 0
 ·
  rw [if_pos h1] at h
  exact rf_caseN k op s A1 c1 l1 r1 r2 r3 r4 r5 r6 w hr1 hc1 ⟨hS⟩ ⟨by rw [h1]; rfl⟩ hn (e1 _ h1) ⟨h⟩
 rw [if_neg h1] at h
 by_cases h2 : s = 1 ∨ s = 2
 ·
  rw [if_pos h2] at h
  exact rf_caseAI k op s A1 c1 l1 r1 r2 r3 r4 r5 r6 w hr1 hc1 ⟨hS⟩ ⟨by rcases h2 with rfl | rfl <;> rfl⟩ hn (e0 _ h1) (e0 _ (by omega)) (e0 _ (by omega)) ⟨h⟩
 rw [if_neg h2] at h
 by_cases h3 : s = 3 ∨ s = 4
 ·
  rw [if_pos h3] at h
  by_cases ho : op = 26
  ·
   rw [rf_b, if_pos ho] at h
   exact rf_caseABJ k op s A1 c1 l1 r1 r2 r3 r4 r5 r6 w hr1 hc1 ⟨hS⟩ ⟨by rcases h3 with rfl | rfl <;> rfl⟩ hn (e0 _ h1) (e0 _ (by omega)) (e0 _ (by omega)) (by rw [ho]; rfl) (by rw [ho]; rfl) ⟨h⟩
  ·
   rw [rf_b, if_neg ho] at h
   exact rf_caseABI k op s A1 c1 l1 r1 r2 r3 r4 r5 r6 w hr1 hc1 ⟨hS⟩ ⟨by rcases h3 with rfl | rfl <;> rfl⟩ hn (e0 _ h1) (e0 _ (by omega)) (e0 _ (by omega)) (bQ ho) (bne_iff_ne.mpr ho) ⟨h⟩
 rw [if_neg h3] at h
 by_cases h5 : s = 5
 ·
  rw [if_pos h5] at h
  by_cases ho : op = 26
  ·
   rw [rf_b, if_pos ho] at h
   exact rf_caseABD k op s A1 c1 l1 r1 r2 r3 r4 r5 r6 w hr1 hc1 ⟨hS⟩ ⟨by rw [h5]; rfl⟩ hn (e0 _ h1) (e1 _ h5) (by rw [ho]; rfl) (by rw [ho]; rfl) ⟨h⟩
  ·
   rw [rf_b, if_neg ho] at h
   exact rf_caseABC k op s A1 c1 l1 r1 r2 r3 r4 r5 r6 w hr1 hc1 ⟨hS⟩ ⟨by rw [h5]; rfl⟩ hn (e0 _ h1) (e1 _ h5) (bQ ho) (bne_iff_ne.mpr ho) ⟨h⟩
 rw [if_neg h5] at h
 by_cases h6 : s = 6
 ·
  rw [if_pos h6] at h
  exact rf_caseA k op s A1 c1 l1 r1 r2 r3 r4 r5 r6 w hr1 hc1 ⟨hS⟩ ⟨by rw [h6]; rfl⟩ hn (e0 _ h1) (e0 _ h5) (e1 _ h6) ⟨h⟩
 rw [if_neg h6] at h
 by_cases h7 : s = 7 ∨ s = 8
 ·
  rw [if_pos h7] at h
  exact rf_caseI k op s A1 c1 l1 r1 r2 r3 r4 r5 r6 w hr1 hc1 ⟨hS⟩ ⟨by rcases h7 with rfl | rfl <;> rfl⟩ hn (e0 _ h1) (e0 _ h5) (e0 _ h6) ⟨h⟩
 rw [if_neg h7] at h
 cases h

end Go.Proofs.Ytmajngcgejkghaa.P

-- Written by a program of this session (wip/tools/hp.py) out of the translation.
import Derived.Test.YtbfepcajbbeheaaPx0
namespace Go.Proofs.Ytbfepcajbbeheaa.P
open Go.RowKit Go.Proofs.YtbfepcajbbeheaaW.PrintWords Go.Proofs.YtbfepcajbbeheaaW.PrintLast Go.Proofs.YtbfepcajbbeheaaW.PrintMore
attribute [local go_sem] max2_int min2_int max_two min_two max_three min_three max_four min_four   -- for this text's walks alone
set_option linter.unusedVariables false
set_option linter.unusedSimpArgs false

/-! ### turtle_Turtle_Do: function 12 -/
open Go.Proofs.Ytbfepcajbbeheaa.C
/-- A complex number of whole parts, one cell. -/
def kCx : Kd (Int × Int) where
  sz := 1
  E := []
  K := fun _ x cs => ∃ a b, cs = [.complex .f64 a b] ∧ Fl a x.1 ∧ Fl b x.2
  M := fun _ _ _ x cs => ∃ a b, cs = [.complex .f64 a b] ∧ Fl a x.1 ∧ Fl b x.2
  K_len := by rintro w x cs ⟨a, b, rfl, _⟩; rfl
  K_one := by
    rintro w x cs ⟨a, b, rfl, _⟩ u hu
    rw [List.mem_singleton.1 hu]
    rfl
  K_below := fun _ h => h
  K_of_M := fun h => h
  M_mono := fun _ h => h
  M_bound := fun h => h
  M_move := fun _ h => h
  M_lower := fun _ h => h
/-- A stroke, two cells. -/
def kSt : Kd S70 := Kd.iso (Kd.pair kCx kCx) (fun x : S70 => ((x.f0, x.f1), (x.f2, x.f3)))
/-- What a turtle is, in whole numbers. -/
structure Tu where
  x : Int
  y : Int
  dx : Int
  dy : Int
  st : Int
  dn : Bool
  l : List S70
/-- A turtle in memory, at block g. -/
def IsT (base : Nat) (w : World) (g : Nat) (T : Tu) : Prop := ∃ ax ay lx ly s v, w.heap[g]? = some (.cells #[.complex .f64 ax ay, .complex .f64 lx ly, .float .f64 s, .bool T.dn, v] 51 (0, 0)) ∧
  (Fl ax T.x ∧ Fl ay T.y ∧ Fl lx T.dx ∧ Fl ly T.dy ∧ Fl s T.st) ∧ Kd.R kSt 68 w base (fun _ => True) v T.l ∧ base ≤ g
def tu_far (n : Int) : Bool := decide (n > 1099511627776) || decide (n < -1099511627776)
theorem tu_max (X : Int) : decide (1099511627776 < max X (-X)) = tu_far X := by
  unfold tu_far
  by_cases h1 : X > 1099511627776
  · rw [decide_eq_true h1, decide_eq_true (by omega)]; rfl
  · rw [decide_eq_false h1]
    by_cases h2 : X < -1099511627776
    · rw [decide_eq_true h2, decide_eq_true (by omega)]; rfl
    · rw [decide_eq_false h2, decide_eq_false (by omega)]; rfl
set_option maxRecDepth 100000 in
set_option maxHeartbeats 2000000 in
theorem tu_far_calls (a b : Nat) (X Y : Int) (ha : Fl a X) (hb : Fl b Y) (w : World) : Calls Try.prog 35 #[.complex .f64 a b] w fun e w' => e = .returned (.bool (tu_far X || tu_far Y)) ∧ w' = w := by
  obtain ⟨r1, h1, f1⟩ := fl_max (P := Try.prog) ha (fl_neg ha)
  obtain ⟨r2, h2, f2⟩ := fl_max (P := Try.prog) hb (fl_neg hb)
  have g1 := (fl_gt f1 fl_far).trans (tu_max X)
  have g2 := (fl_gt f2 fl_far).trans (tu_max Y)
  clear f1 f2 ha hb
  have hn : ∀ (k : FloatKind) (q : Nat) (w : World), (Op.unary .neg (.float k q)).run Try.prog w = .ok (.float k (Op.negFloat k q)) w := fun _ _ _ => rfl
  cases e1 : tu_far X
  · rw [e1] at g1
    go_enter Try.func35, Try.ntmps35
    go_wp2
    go_ret
    exact ⟨by simp [g2], rfl⟩
  · rw [e1] at g1
    go_enter Try.func35, Try.ntmps35
    go_wp2
    go_ret
    exact ⟨by simp, rfl⟩
theorem tu_info : (Try.prog.info? 68).map (fun i => (i.zero, i.size, i.bytes)) = some (some (.agg #[.complex .f64 0 0, .complex .f64 0 0]), 2, 32) := by kernel_rfl
theorem tu_stroke {w : World} {base : Nat} {ok : Nat → Prop} {a b c d : Nat} {x y u v : Int} (ha : Fl a x) (hb : Fl b y) (hc : Fl c u) (hd : Fl d v) : kSt.M w base ok (⟨x, y, u, v⟩ : S70) [.complex .f64 a b, .complex .f64 c d] :=
  ⟨[.complex .f64 a b], [.complex .f64 c d], rfl, ⟨a, b, rfl, ha, hb⟩, ⟨c, d, rfl, hc, hd⟩⟩
theorem tu_put {base : Nat} {w : World} {g : Nat} {T : Tu} (h : IsT base w g T) : g < w.heap.size := by
  obtain ⟨_, _, _, _, _, _, hb, _⟩ := h
  exact blk_lt hb
/-- What a call on a turtle keeps: all that lies below base, and whatever is no turtle and no stroke. -/
structure TB (base : Nat) (w w' : World) : Prop where
  below : Below base w w'
  keep : ∀ (k : Nat) (o : Obj), w.heap[k]? = some o → (∀ cs f, o ≠ .cells cs 51 f) → (∀ cs f, o ≠ .cells cs 68 f) → w'.heap[k]? = some o
theorem TB.refl (base : Nat) (w : World) : TB base w w := ⟨Below.refl _ _, fun _ _ h _ _ => h⟩
theorem TB.trans {base : Nat} {a b c : World} (h : TB base a b) (k : TB base b c) : TB base a c := ⟨h.below.trans k.below, fun i o e p q => k.keep i o (h.keep i o e p q) p q⟩
theorem TB.drew {base : Nat} {a b : World} (h : TB base a b) : TB base a b.drew := ⟨below_drew h.below, fun i o e p q => h.keep i o e p q⟩
theorem TB.set {base : Nat} {a b : World} (h : TB base a b) {g : Nat} {cs : Array Value} {f : Nat × Nat} (hb : b.heap[g]? = some (.cells cs 51 f)) (hg : base ≤ g) (i : Nat) (v : Value) : TB base a (b.setCell ⟨g, i, none⟩ v) :=
  ⟨h.below.setCell (p := ⟨g, i, none⟩) hg v, fun k o e p q => (Below.heap_setCell b ⟨g, i, none⟩ v k (fun hk => by
    have e2 := h.keep k o e p q
    have hk' : k = g := hk
    subst hk'
    rw [hb] at e2
    cases e2
    exact p _ _ rfl)).trans (h.keep k o e p q)⟩
theorem TB.grown {base : Nat} {w w1 : World} {v : Value} {l : List S70} (hR : Kd.R kSt 68 w base (fun _ => True) v l) (hb : Below base w w1) (hg : w.drew.grownBy w1 v.ownBlock) : TB base w w1 :=
  ⟨hb, fun k o e p q => (hg.block k (blk_lt e) (fun he => by
    obtain ⟨cells, hc⟩ := Kd.R_typed hR k he.symm
    rw [e] at hc
    cases hc
    exact q _ _ rfl)).trans e⟩
theorem TB.others {base : Nat} {w w' : World} (h : TB base w w') : KeepsOthers w w' := ⟨h.below.size, fun k o e ho => h.keep k o e (fun cs f he => by subst he; cases ho) (fun cs f he => by subst he; cases ho)⟩
theorem TB.cells {base : Nat} {w w' : World} (h : TB base w w') {k : Nat} {cs : Array Value} {t : TypeId} {f : Nat × Nat} (e : w.heap[k]? = some (.cells cs t f)) (h1 : t ≠ 51) (h2 : t ≠ 68) : w'.heap[k]? = some (.cells cs t f) :=
  h.keep k _ e (fun cs' f' he => h1 (by injection he)) (fun cs' f' he => h2 (by injection he))
def tu_move (T : Tu) (X Y : Int) : Tu × Int := if tu_far X = true ∨ tu_far Y = true then (T, 90) else
  ({ T with x := X, y := Y, l := if T.dn = true ∧ ¬ (X = T.x ∧ Y = T.y) then T.l ++ [⟨T.x, T.y, X, Y⟩] else T.l }, 0)
set_option maxRecDepth 100000 in
set_option maxHeartbeats 4000000 in
theorem tu_move_calls (base g : Nat) (T : Tu) (a b : Nat) (X Y : Int) (ha : Fl a X) (hb : Fl b Y) (w : World) (hT : IsT base w g T) (hl : T.l.length ≤ 1000000) (hB : base ≤ w.heap.size) :
    Calls Try.prog 27 #[.pointer (some ⟨g, 0, none⟩), .complex .f64 a b] w fun e w' => e = .returned (.int .i64 (tu_move T X Y).2) ∧ IsT base w' g (tu_move T X Y).1 ∧ TB base w w' := by
  have HA := Aside0.mk ha; have HBB := Aside0.mk hb; have HT := Aside0.mk hT; have HL := Aside0.mk hl; have HB0 := Aside0.mk hB
  obtain ⟨ax, ay, lx, ly, s, v, hblk, ⟨f1, f2, f3, f4, f5⟩, hR, hg⟩ := hT
  have HK := Aside0.mk hblk; have HR := Aside0.mk hR; have HG := Aside0.mk hg
  have c0 : w.cell? ⟨g, 0, none⟩ = some (.complex .f64 ax ay) := blk_cell hblk 0
  have c3 : w.cell? ⟨g, 3, none⟩ = some (.bool T.dn) := blk_cell hblk 3
  have c4 : w.cell? ⟨g, 4, none⟩ = some v := blk_cell hblk 4
  have z0 := blk_frozen hblk 0
  have z4 := blk_frozen hblk 4
  have q1 := fl_eq ha f1
  have q2 := fl_eq hb f2
  have HF := Aside0.mk (And.intro f1 (And.intro f2 (And.intro f3 (And.intro f4 f5))))
  clear hblk hR hg f1 f2 f3 f4 f5 ha hb hl hB
  have hst : ∀ (p : Addr) (q r : Nat) (w : World), (store p (.complex .f64 q r)).run Try.prog w = stored Try.prog w p (.complex .f64 q r) .plain := fun p q r w => run_store Try.prog w p _ .plain rfl
  by_cases hf : tu_far X = true ∨ tu_far Y = true
  · have e : tu_move T X Y = (T, 90) := by unfold tu_move; rw [if_pos hf]
    have e2 : (tu_far X || tu_far Y) = true := by rw [Bool.or_eq_true]; exact hf
    rw [e]
    have E2 := Aside0.mk e2
    clear e e2 hf
    go_enter Try.func27, Try.ntmps27
    go_wp2_with (first | (go_at_call 35; ((with_reducible refine (tu_far_calls a b X Y HA.out HBB.out _).mono ?_)); rintro e w' ⟨rfl, rfl⟩; rw [E2.out]))
    go_ret
    exact ⟨rfl, HT.out, TB.refl _ _⟩
  · have e2 : (tu_far X || tu_far Y) = false := by
      cases h1 : tu_far X <;> cases h2 : tu_far Y
      · rfl
      · exact absurd (.inr h2) hf
      · exact absurd (.inl h1) hf
      · exact absurd (.inl h1) hf
    have E2 := Aside0.mk e2
    have HF2 := Aside0.mk hf
    clear e2 hf
    have e0 : tu_move T X Y = ({ T with x := X, y := Y, l := if T.dn = true ∧ ¬ (X = T.x ∧ Y = T.y) then T.l ++ [⟨T.x, T.y, X, Y⟩] else T.l }, 0) := by unfold tu_move; rw [if_neg HF2.out]
    rw [e0]
    clear e0
    obtain ⟨x, y, dx, dy, st, dn, l⟩ := T
    dsimp only at *
    cases dn with
    | false =>
      rw [if_neg (show ¬ (false = true ∧ ¬ (X = x ∧ Y = y)) by simp)]
      go_enter Try.func27, Try.ntmps27
      go_wp2_with (first | (go_at_call 35; ((with_reducible refine (tu_far_calls a b X Y HA.out HBB.out _).mono ?_)); rintro e w' ⟨rfl, rfl⟩; rw [E2.out]))
      go_ret
      exact ⟨rfl, ⟨_, _, _, _, _, _, blk_put HK.out 0 _ rfl, ⟨HA.out, HBB.out, HF.out.2.2⟩, Kd.R_set HR.out HK.out (by decide) 0 _, HG.out⟩, (TB.refl base _).set HK.out HG.out 0 _⟩
    | true =>
      by_cases hxy : X = x ∧ Y = y
      · rw [if_neg (fun h => h.2 hxy)]
        rw [decide_eq_true hxy.1] at q1
        rw [decide_eq_true hxy.2] at q2
        clear hxy
        go_enter Try.func27, Try.ntmps27
        go_wp2_with (first | (go_at_call 35; ((with_reducible refine (tu_far_calls a b X Y HA.out HBB.out _).mono ?_)); rintro e w' ⟨rfl, rfl⟩; rw [E2.out]))
        go_ret
        exact ⟨rfl, ⟨_, _, _, _, _, _, blk_put HK.out 0 _ rfl, ⟨HA.out, HBB.out, HF.out.2.2⟩, Kd.R_set HR.out HK.out (by decide) 0 _, HG.out⟩, (TB.refl base _).set HK.out HG.out 0 _⟩
      · rw [if_pos ⟨rfl, hxy⟩]
        have q3 : ((FloatKind.f64.format.order a ax == some Ordering.eq) && (FloatKind.f64.format.order b ay == some Ordering.eq)) = false := by
          rw [q1, q2]
          by_cases h1 : X = x
          · rw [decide_eq_true h1, decide_eq_false (fun h2 => hxy ⟨h1, h2⟩)]; rfl
          · rw [decide_eq_false h1]; rfl
        clear hxy q1 q2
        go_enter Try.func27, Try.ntmps27
        go_wp2_with (first | (go_at_call 35; ((with_reducible refine (tu_far_calls a b X Y HA.out HBB.out _).mono ?_)); rintro e w' ⟨rfl, rfl⟩; rw [E2.out]))
        have c4b : ∀ (o : Obj), (w'.alloc o).drew.cell? ⟨g, 4, none⟩ = some v := fun o => blk_cell (blk_drew (blk_alloc HK.out o)) 4
        go_region_law (first | (refine Kd.R_append_step kSt (w0 := w') base (by rfl) (.tmp 23) (.tmp 30) 49 68 (.agg #[.complex .f64 0 0, .complex .f64 0 0]) 32 rfl Try.underlying49 tu_info rfl (by decide) (by omega) v l ⟨x, y, X, Y⟩ [.complex .f64 ax ay, .complex .f64 a b] (fun _ => True) (fun _ => False) (by first | rfl | (simp [Act.eval, Act.put]; done)) (by first | rfl | (simp [Act.eval, Act.put]; done)) (tu_stroke HF.out.1 HF.out.2.1 HA.out HBB.out) (fun _ hk => hk.elim) (fun _ _ => trivial) (Kd.R_drew HR.out) (below_drew (Below.refl base w')) HB0.out (by have := HL.out; omega) ?_; intro v1 w1 ho hb hg hat; obtain ⟨g1, cap1, e1, -⟩ := Kd.R_form ho (by simp); rw [List.length_append, List.length_singleton] at e1; subst e1; have hk1 := blk_grown (blk_drew HK.out) hg (Kd.R_ne (Kd.R_drew HR.out) (blk_drew HK.out) (by decide)); have c40 : w1.cell? ⟨g, 4, none⟩ = some v := blk_cell hk1 4; have z40 := blk_frozen hk1 4; have z00 := blk_frozen hk1 0; have c00 : w1.cell? ⟨g, 0, none⟩ = some (.complex .f64 ax ay) := blk_cell hk1 0; have HK1 := Aside0.mk hk1; have HO1 := Aside0.mk ho; have HBW := Aside0.mk (TB.grown HR.out hb hg); clear hk1 ho hb hg hat))
        all_goals (go_wp2; go_ret; exact ⟨rfl, ⟨_, _, _, _, _, _, blk_put (blk_put HK1.out 4 _ rfl) 0 _ rfl, ⟨HA.out, HBB.out, HF.out.2.2⟩, Kd.R_set (Kd.R_set HO1.out HK1.out (by decide) 4 _) (blk_put HK1.out 4 _ rfl) (by decide) 0 _, HG.out⟩, (HBW.out.set HK1.out HG.out 4 _).set (blk_put HK1.out 4 _ rfl) HG.out 0 _⟩)
def tu_turn : Nat → Tu → Tu
  | 0, T => T
  | i + 1, T => { tu_turn i T with dx := -(tu_turn i T).dy, dy := (tu_turn i T).dx }
def tu_four (m : Int) : Nat := (m % 4).toNat
def tu_do (T : Tu) (what m : Int) : Tu × Int :=
  if what < 1 ∨ 5 < what then (T, 110) else if m < -1000000 ∨ 1000000 < m then (T, 90) else
  if what = 1 then tu_move T (T.x + T.dx * (m * T.st)) (T.y + T.dy * (m * T.st)) else
  if what = 2 then (tu_turn (tu_four m) T, 0) else
  if what = 3 then ({ T with dn := m != 0 }, 0) else
  if what = 4 then ({ (tu_move T 0 0).1 with dx := 1, dy := 0 }, (tu_move T 0 0).2) else ({ T with st := m }, 0)
/-- What holds of a turtle at all times. -/
structure TuOk (T : Tu) : Prop where
  x : -1099511627776 ≤ T.x ∧ T.x ≤ 1099511627776
  y : -1099511627776 ≤ T.y ∧ T.y ≤ 1099511627776
  dx : T.dx = -1 ∨ T.dx = 0 ∨ T.dx = 1
  dy : T.dy = -1 ∨ T.dy = 0 ∨ T.dy = 1
  st : -1000000 ≤ T.st ∧ T.st ≤ 1000000
theorem tu_step {m s : Int} (hm : -1000000 ≤ m ∧ m ≤ 1000000) (hs : -1000000 ≤ s ∧ s ≤ 1000000) : -1000000000000 ≤ m * s ∧ m * s ≤ 1000000000000 := by
  have h := Nat.mul_le_mul (show m.natAbs ≤ 1000000 by omega) (show s.natAbs ≤ 1000000 by omega)
  rw [← Int.natAbs_mul] at h
  omega
theorem tu_turn_ok {T : Tu} (h : TuOk T) : ∀ i, TuOk (tu_turn i T)
  | 0 => h
  | i + 1 => by
    have := tu_turn_ok h i
    exact ⟨this.x, this.y, by have := this.dy; simp only [tu_turn]; omega, by have := this.dx; simp only [tu_turn]; omega, this.st⟩
theorem tu_farness {n : Int} (h : tu_far n = false) : -1099511627776 ≤ n ∧ n ≤ 1099511627776 := by
  unfold tu_far at h
  rw [Bool.or_eq_false_iff] at h
  have h1 := of_decide_eq_false h.1
  have h2 := of_decide_eq_false h.2
  omega
theorem tu_move_ok {T : Tu} (h : TuOk T) (X Y : Int) : TuOk (tu_move T X Y).1 := by
  unfold tu_move
  split
  · exact h
  · rename_i hf
    have h1 : tu_far X = false := by cases e : tu_far X; rfl; exact absurd (.inl e) hf
    have h2 : tu_far Y = false := by cases e : tu_far Y; rfl; exact absurd (.inr e) hf
    exact ⟨tu_farness h1, tu_farness h2, h.dx, h.dy, h.st⟩
theorem tu_do_ok {T : Tu} (h : TuOk T) (what m : Int) : TuOk (tu_do T what m).1 := by
  unfold tu_do
  split
  · exact h
  · split
    · exact h
    · rename_i hm
      split
      · exact tu_move_ok h _ _
      · split
        · exact tu_turn_ok h _
        · split
          · exact ⟨h.x, h.y, h.dx, h.dy, h.st⟩
          · split
            · have := tu_move_ok h 0 0
              exact ⟨this.x, this.y, .inr (.inr rfl), .inr (.inl rfl), this.st⟩
            · exact ⟨h.x, h.y, h.dx, h.dy, by simp only; omega⟩
theorem tu_move_len (T : Tu) (X Y : Int) : (tu_move T X Y).1.l.length ≤ T.l.length + 1 := by
  unfold tu_move
  split
  · simp
  · simp only
    split
    · simp
    · omega
theorem tu_turn_l (T : Tu) : ∀ i, (tu_turn i T).l = T.l
  | 0 => rfl
  | i + 1 => tu_turn_l T i
theorem tu_do_len (T : Tu) (what m : Int) : (tu_do T what m).1.l.length ≤ T.l.length + 1 := by
  unfold tu_do
  split
  · simp
  · split
    · simp
    · split
      · exact tu_move_len T _ _
      · split
        · rw [tu_turn_l]; omega
        · split
          · simp
          · split
            · exact tu_move_len T 0 0
            · simp
/-- Where going leads. -/
theorem tu_go {T : Tu} (h : TuOk T) {ax ay lx ly s : Nat} (f : Fl ax T.x ∧ Fl ay T.y ∧ Fl lx T.dx ∧ Fl ly T.dy ∧ Fl s T.st) {m : Int} (hm : -1000000 ≤ m ∧ m ≤ 1000000) :
    ∃ q re im tx ty, floatBits .mul .f64 (floatOfInt .f64 m) s = some q ∧ cMulBits lx ly q 0 = some (re, im) ∧ cSumBits .add .f64 ax ay re im = some (tx, ty) ∧ Fl tx (T.x + T.dx * (m * T.st)) ∧ Fl ty (T.y + T.dy * (m * T.st)) := by
  obtain ⟨f1, f2, f3, f4, f5⟩ := f
  have hs := tu_step hm h.st
  obtain ⟨q, e1, g1⟩ := fl_mul (fl_ofInt (n := m) (by omega)) f5 (by omega)
  generalize hp : m * T.st = p at *
  have a1 : -1000000000000 ≤ T.dx * p ∧ T.dx * p ≤ 1000000000000 := by rcases h.dx with e | e | e <;> rw [e] <;> omega
  have a2 : -1000000000000 ≤ T.dy * p ∧ T.dy * p ≤ 1000000000000 := by rcases h.dy with e | e | e <;> rw [e] <;> omega
  have h1 := h.x
  have h2 := h.y
  obtain ⟨re, im, e2, g2, g3⟩ := fl_cmul f3 f4 g1 fl_0 (by omega) (by omega) (by omega) (by omega) (by omega) (by omega)
  rw [Int.mul_zero, Int.sub_zero] at g2
  rw [Int.mul_zero, Int.zero_add] at g3
  obtain ⟨tx, ty, e3, g4, g5⟩ := fl_csum f1 f2 g2 g3 (by omega) (by omega)
  exact ⟨q, re, im, tx, ty, e1, e2, e3, g4, g5⟩
theorem tu_rem {m : Int} (hm : -1000000 ≤ m ∧ m ≤ 1000000) : (wrap32 (m.tmod 4 + 4)).tmod 4 = (tu_four m : Int) := by
  have e : m.tmod 4 = if 0 ≤ m then m % 4 else -(-m % 4) := by
    split
    · rename_i h; exact tmod_pos _ _ h
    · rename_i h; exact tmod_neg _ _ (by omega)
  have e2 : wrap32 (m.tmod 4 + 4) = m.tmod 4 + 4 := by
    rw [e]; unfold wrap32; split <;> omega
  rw [e2, tmod_pos _ _ (by rw [e]; split <;> omega), e]
  unfold tu_four
  split <;> omega
set_option maxRecDepth 100000 in
set_option maxHeartbeats 4000000 in
theorem tu_do_calls (base g : Nat) (T : Tu) (what m : Int) (w : World) (hT : IsT base w g T) (hO : TuOk T) (hl : T.l.length ≤ 900000) (hB : base ≤ w.heap.size) :
    Calls Try.prog 12 #[.pointer (some ⟨g, 0, none⟩), .int .i32 what, .int .i32 m] w fun e w' => e = .returned (.int .i64 (tu_do T what m).2) ∧ IsT base w' g (tu_do T what m).1 ∧ TB base w w' := by
  have HT := Aside0.mk hT; have HL := Aside0.mk hl; have HB0 := Aside0.mk hB; have HO := Aside0.mk hO
  by_cases h1 : what < 1 ∨ 5 < what
  · have e : tu_do T what m = (T, 110) := by unfold tu_do; rw [if_pos h1]
    rw [e]
    clear e hT hO hl hB
    rcases h1 with h1 | h1
    · have p1 : decide (what < 1) = true := decide_eq_true h1
      go_enter Try.func12, Try.ntmps12
      go_wp2
      go_ret
      exact ⟨rfl, HT.out, TB.refl _ _⟩
    · have p1 : decide (what < 1) = false := decide_eq_false (by omega)
      have p2 : decide (5 < what) = true := decide_eq_true h1
      go_enter Try.func12, Try.ntmps12
      go_wp2
      go_ret
      exact ⟨rfl, HT.out, TB.refl _ _⟩
  have p1 : decide (what < 1) = false := decide_eq_false (by omega)
  have p2 : decide (5 < what) = false := decide_eq_false (by omega)
  by_cases h2 : m < -1000000 ∨ 1000000 < m
  · have e : tu_do T what m = (T, 90) := by unfold tu_do; rw [if_neg h1, if_pos h2]
    rw [e]
    clear e hT hO hl hB h1
    rcases h2 with h2 | h2
    · have p3 : decide (m < -1000000) = true := decide_eq_true h2
      go_enter Try.func12, Try.ntmps12
      go_wp2
      go_ret
      exact ⟨rfl, HT.out, TB.refl _ _⟩
    · have p3 : decide (m < -1000000) = false := decide_eq_false (by omega)
      have p4 : decide (1000000 < m) = true := decide_eq_true h2
      go_enter Try.func12, Try.ntmps12
      go_wp2
      go_ret
      exact ⟨rfl, HT.out, TB.refl _ _⟩
  have p3 : decide (m < -1000000) = false := decide_eq_false (by omega)
  have p4 : decide (1000000 < m) = false := decide_eq_false (by omega)
  have HM := Aside0.mk (show -1000000 ≤ m ∧ m ≤ 1000000 by omega)
  obtain ⟨ax, ay, lx, ly, s, v, hblk, hf, hR, hg⟩ := hT
  have HK := Aside0.mk hblk; have HR := Aside0.mk hR; have HG := Aside0.mk hg; have HF := Aside0.mk hf
  have c0 : w.cell? ⟨g, 0, none⟩ = some (.complex .f64 ax ay) := blk_cell hblk 0
  have c1 : w.cell? ⟨g, 1, none⟩ = some (.complex .f64 lx ly) := blk_cell hblk 1
  have c2 : w.cell? ⟨g, 2, none⟩ = some (.float .f64 s) := blk_cell hblk 2
  have c3 : w.cell? ⟨g, 3, none⟩ = some (.bool T.dn) := blk_cell hblk 3
  have z1 := blk_frozen hblk 1
  have z2 := blk_frozen hblk 2
  have z3 := blk_frozen hblk 3
  have hst : ∀ (p : Addr) (q r : Nat) (w : World), (store p (.complex .f64 q r)).run Try.prog w = stored Try.prog w p (.complex .f64 q r) .plain := fun p q r w => run_store Try.prog w p _ .plain rfl
  have hsf : ∀ (p : Addr) (q : Nat) (w : World), (store p (.float .f64 q)).run Try.prog w = stored Try.prog w p (.float .f64 q) .plain := fun p q w => run_store Try.prog w p _ .plain rfl
  clear hblk hR hg hf hO hl hB
  have hw : what = 1 ∨ what = 2 ∨ what = 3 ∨ what = 4 ∨ what = 5 := by omega
  have e : tu_do T what m = if what = 1 then tu_move T (T.x + T.dx * (m * T.st)) (T.y + T.dy * (m * T.st)) else if what = 2 then (tu_turn (tu_four m) T, 0) else if what = 3 then ({ T with dn := m != 0 }, 0) else
      if what = 4 then ({ (tu_move T 0 0).1 with dx := 1, dy := 0 }, (tu_move T 0 0).2) else ({ T with st := m }, 0) := by
    unfold tu_do; rw [if_neg h1, if_neg h2]
  rw [e]
  clear e h1 h2
  rcases hw with rfl | rfl | rfl | rfl | rfl
  · rw [if_pos rfl]
    obtain ⟨q, re, im, tx, ty, e1, e2, e3, g4, g5⟩ := tu_go HO.out HF.out HM.out
    have HX := Aside0.mk g4; have HY := Aside0.mk g5
    have r1 : ∀ w : World, (binOp .mul 48 (.float .f64 (floatOfInt .f64 m)) (.float .f64 s)).run Try.prog w = .ok (.float .f64 q) w := fun w => run_float_arith w .mul _ .f64 _ _ q e1
    have r2 : ∀ w : World, (binOp .mul 47 (.complex .f64 lx ly) (.complex .f64 q 0)).run Try.prog w = .ok (.complex .f64 re im) w := fun w => run_complex_mul w _ _ _ _ _ re im e2
    have r3 : ∀ w : World, (binOp .add 47 (.complex .f64 ax ay) (.complex .f64 re im)).run Try.prog w = .ok (.complex .f64 tx ty) w := fun w => run_complex_sum w .add (.inl rfl) _ .f64 _ _ _ _ tx ty e3
    clear e1 e2 e3 g4 g5
    go_enter Try.func12, Try.ntmps12
    go_wp2
    go_still_tail 19, (by kernel_rfl)
    change wpList _ _ _ _ _ w.drew
    have HT2 := Aside0.mk (show IsT base w.drew g T from HT.out)
    have HB2 := Aside0.mk (TB.drew (TB.refl base w))
    have HB3 := Aside0.mk (show base ≤ w.drew.heap.size from HB0.out)
    generalize w.drew = w2 at HT2 HB2 HB3 ⊢
    go_wp2_with (go_at_call 27; ((with_reducible refine (tu_move_calls base g T tx ty _ _ HX.out HY.out w2 HT2.out (Nat.le_trans HL.out (by decide)) HB3.out).mono ?_)); rintro e w' ⟨rfl, hI, hb⟩; have HI := Aside0.mk hI; have HBW := Aside0.mk (HB2.out.trans hb); clear hI hb)
    go_ret
    exact ⟨rfl, HI.out, HBW.out⟩
  · rw [if_neg (by decide), if_pos rfl]
    clear c1 z1
    have hq := tu_rem HM.out
    go_enter Try.func12, Try.ntmps12
    go_wp2
    go_loopg [54] (tu_four m + 1) (fun kx v54 wr => ∃ i : Nat, v54 = .int .i32 i ∧ Aside0 (i + kx = tu_four m + 1 ∧ i ≤ tu_four m) ∧ Aside0 (IsT base wr g (tu_turn i T)) ∧ Aside0 (TB base w wr))
    case atStart => exact ⟨0, rfl, ⟨⟨by omega, by omega⟩⟩, HT, ⟨TB.refl _ _⟩⟩
    case round =>
      obtain ⟨i, rfl, HI, HTI, HBI⟩ := hrel
      by_cases hi : i < tu_four m
      · obtain ⟨ax, ay, lx, ly, s, v, hblk, hf, hR, hg⟩ := HTI.out
        have hO := tu_turn_ok HO.out i
        obtain ⟨re, im, e2, g2, g3⟩ := fl_cmul hf.2.2.1 hf.2.2.2.1 fl_0 fl_1 (by have := hO.dx; omega) (by have := hO.dy; omega) (by have := hO.dx; have := hO.dy; omega) (by have := hO.dx; omega) (by have := hO.dy; omega) (by have := hO.dx; have := hO.dy; omega)
        rw [Int.mul_zero, Int.mul_one, Int.zero_sub] at g2
        rw [Int.mul_one, Int.mul_zero, Int.add_zero] at g3
        have r2 : ∀ w : World, (binOp .mul 47 (.complex .f64 lx ly) (.complex .f64 0 4607182418800017408)).run Try.prog w = .ok (.complex .f64 re im) w := fun w => run_complex_mul w _ _ _ _ _ re im e2
        have c1 : wr.cell? ⟨g, 1, none⟩ = some (.complex .f64 lx ly) := blk_cell hblk 1
        have z1 := blk_frozen hblk 1
        have p6 : decide ((i : Int) < (tu_four m : Int)) = true := decide_eq_true (by omega)
        have p7 : decide (i < tu_four m) = true := decide_eq_true hi
        have hw1 : wrap32 ((i : Int) + 1) = ((i + 1 : Nat) : Int) := by unfold tu_four at hi; unfold wrap32; omega
        have HK5 := Aside0.mk hblk; have HF5 := Aside0.mk hf; have HR5 := Aside0.mk hR; have HX := Aside0.mk g2; have HY := Aside0.mk g3; have HJ := Aside0.mk hi
        clear hblk hf hR hg e2 g2 g3 hi hO
        go_wp2
        go_roundg (tu_four m - i)
        case measure => have h1 := HI.out; have h2 := HJ.out; omega
        case rel => exact ⟨i + 1, (by first | rfl | exact congrArg _ hw1 | (rw [hw1]; rfl)), ⟨by have h1 := HI.out; have h2 := HJ.out; exact ⟨by omega, by omega⟩⟩, ⟨⟨_, _, _, _, _, _, blk_put HK5.out 1 _ rfl, ⟨HF5.out.1, HF5.out.2.1, HX.out, HY.out, HF5.out.2.2.2.2⟩, Kd.R_set HR5.out HK5.out (by decide) 1 _, HG.out⟩⟩, ⟨HBI.out.set HK5.out HG.out 1 _⟩⟩
      · have hi2 : i = tu_four m := by have := HI.out; omega
        have p6 : decide ((i : Int) < (tu_four m : Int)) = false := decide_eq_false (by omega)
        have p7 : decide (i < tu_four m) = false := decide_eq_false hi
        have HJ := Aside0.mk hi2
        clear hi hi2
        go_wp2
        go_ret
        exact ⟨rfl, by rw [← HJ.out]; exact HTI.out, HBI.out⟩
  · rw [if_neg (by decide), if_neg (by decide), if_pos rfl]
    go_enter Try.func12, Try.ntmps12
    go_wp2
    go_ret
    exact ⟨rfl, ⟨_, _, _, _, _, _, blk_put HK.out 3 _ rfl, HF.out, Kd.R_set HR.out HK.out (by decide) 3 _, HG.out⟩, (TB.refl base _).set HK.out HG.out 3 _⟩
  · rw [if_neg (by decide), if_neg (by decide), if_neg (by decide), if_pos rfl]
    go_enter Try.func12, Try.ntmps12
    go_wp2_with (go_at_call 27; ((with_reducible refine (tu_move_calls base g T 0 0 0 0 fl_0 fl_0 _ HT.out (Nat.le_trans HL.out (by decide)) HB0.out).mono ?_)); rintro e w5 ⟨rfl, hI, hb⟩; have HBW := Aside0.mk hb; clear hb; obtain ⟨ax5, ay5, lx5, ly5, s5, v5, hblk, hf, hR, hg⟩ := hI; have c15 : w5.cell? ⟨g, 1, none⟩ = some (.complex .f64 lx5 ly5) := blk_cell hblk 1; have z15 := blk_frozen hblk 1; have HK5 := Aside0.mk hblk; have HF5 := Aside0.mk hf; have HR5 := Aside0.mk hR; clear hblk hf hR hg)
    go_ret
    exact ⟨rfl, ⟨_, _, _, _, _, _, blk_put HK5.out 1 _ rfl, ⟨HF5.out.1, HF5.out.2.1, fl_1, fl_0, HF5.out.2.2.2.2⟩, Kd.R_set HR5.out HK5.out (by decide) 1 _, HG.out⟩, HBW.out.set HK5.out HG.out 1 _⟩
  · rw [if_neg (by decide), if_neg (by decide), if_neg (by decide), if_neg (by decide)]
    have hfm := fl_ofInt (n := m) (by have := HM.out; omega)
    have HFM := Aside0.mk hfm
    clear hfm
    go_enter Try.func12, Try.ntmps12
    go_wp2
    go_ret
    exact ⟨rfl, ⟨_, _, _, _, _, _, blk_put HK.out 2 _ rfl, ⟨HF.out.1, HF.out.2.1, HF.out.2.2.1, HF.out.2.2.2.1, HFM.out⟩, Kd.R_set HR.out HK.out (by decide) 2 _, HG.out⟩, (TB.refl base _).set HK.out HG.out 2 _⟩
def tu0 : Tu := ⟨0, 0, 1, 0, 1, true, []⟩
theorem tu0_ok : TuOk tu0 := ⟨by decide, by decide, .inr (.inr rfl), .inr (.inl rfl), by decide⟩
set_option maxRecDepth 100000 in
theorem tu_new_calls (w : World) : Calls Try.prog 9 #[] w fun e w' => e = .returned (.pointer (some ⟨w.heap.size, 0, none⟩)) ∧ IsT w.heap.size w' w.heap.size tu0 ∧ Below w.heap.size w w' := by
  go_enter Try.func9, Try.ntmps9
  go_wp2
  go_ret
  exact ⟨rfl, ⟨0, 0, 4607182418800017408, 0, 4607182418800017408, .slice none 0 0, blk_new _ _, ⟨fl_0, fl_0, fl_1, fl_0, fl_1⟩, Kd.R_nil _ _ _ _ _, Nat.le_refl _⟩, below_alloc (Below.refl _ _) _⟩
def tu_pairs : List Int → List (Int × Int)
  | a :: b :: t => (a, b) :: tu_pairs t
  | _ => []
theorem tu_pairs_take (l : List Int) : ∀ (i : Nat), 2 * i + 1 < l.length → (tu_pairs l)[i]? = some (rd l ((2 * i : Nat) : Int), rd l ((2 * i + 1 : Nat) : Int)) := by
  match l with
  | [] => intro i h; simp at h
  | [a] => intro i h; simp at h
  | a :: b :: t =>
    intro i h
    cases i with
    | zero => rfl
    | succ i =>
      have := tu_pairs_take t i (by simp at h; omega)
      rw [tu_pairs, List.getElem?_cons_succ, this]
      have e1 : rd (a :: b :: t) ((2 * (i + 1) : Nat) : Int) = rd t ((2 * i : Nat) : Int) := by unfold rd; rw [Int.toNat_natCast, Int.toNat_natCast, show 2 * (i + 1) = 2 * i + 1 + 1 from by omega]; rfl
      have e2 : rd (a :: b :: t) ((2 * (i + 1) + 1 : Nat) : Int) = rd t ((2 * i + 1 : Nat) : Int) := by unfold rd; rw [Int.toNat_natCast, Int.toNat_natCast, show 2 * (i + 1) + 1 = 2 * i + 1 + 1 + 1 from by omega]; rfl
      rw [e1, e2]
theorem tu_pairs_len : ∀ (l : List Int), (tu_pairs l).length = l.length / 2
  | [] => rfl
  | [_] => by simp [tu_pairs]
  | _ :: _ :: t => by rw [tu_pairs, List.length_cons, tu_pairs_len t]; simp only [List.length_cons]; omega
def KpP (n₀ BL : Nat) (W W' : World) : Prop := Below n₀ W W' ∧ ∀ o, W.heap[BL]? = some o → W'.heap[BL]? = some o
theorem KpP.refl (n₀ BL : Nat) (W : World) : KpP n₀ BL W W := ⟨Below.refl _ _, fun _ h => h⟩
theorem KpP.trans {n₀ BL : Nat} {A B C : World} (h : KpP n₀ BL A B) (k : KpP n₀ BL B C) : KpP n₀ BL A C := ⟨h.1.trans k.1, fun o e => k.2 o (h.2 o e)⟩
theorem tu_meas (n j : Nat) (h : j + 1 < n) (hw : wrap64 ((j : Int) + 2) = ((j + 2 : Nat) : Int)) : n + 1 - (intOf (.int .i64 (wrap64 ((j : Int) + 2)))).toNat < n + 1 - (intOf (.int .i64 (j : Int))).toNat := by
  rw [hw]
  show n + 1 - (((j + 2 : Nat) : Int)).toNat < n + 1 - ((j : Int)).toNat
  rw [Int.toNat_natCast, Int.toNat_natCast]
  omega
theorem tu_drewn (w : World) : w.grownBy w.drew none := ⟨rfl, rfl, rfl, Nat.le_refl _, fun _ _ _ => rfl⟩
theorem tu_Pairs_calls (v : Value) (w : World) (hv : ∃ A n c, v = .slice A n c) :
    Calls Try.prog 19 #[v] w fun e w' => e = .returned (.func (.func 32) #[] #[.pointer (some ⟨w.heap.size, 0, none⟩)]) ∧ w' = w.alloc (.cells #[v] 53) := by
  obtain ⟨A, n, c, rfl⟩ := hv
  go_enter Try.func19, Try.ntmps19
  go_wp2
  go_ret
  exact ⟨rfl, rfl⟩
section
attribute [local go_sem] Oper.semAt_some
set_option maxRecDepth 100000 in
set_option maxHeartbeats 8000000 in
theorem tu_iter (n : Nat) (hn : 1 ≤ n) (A1 : Option Addr) (c1 : Nat) (l1 : List Int) (w0 w : World) (BL : Nat) (HC : Aside0 (Kd.C (Kd.int .i32) w0 A1 l1.length l1)) (hlen : l1.length ≤ 9223372036854775807)
    (hB : Below w0.heap.size w0 w) (hbl : w.heap[BL]? = some (.cells #[.slice A1 l1.length c1] 53 (0, 0))) :
    SeqStopsK Fence.wide n Try.prog 32 #[.pointer (some ⟨BL, 0, none⟩)] (fun x : Int × Int => #[.int .i32 x.1, .int .i32 x.2]) (KpP w0.heap.size BL) (fun xs => xs = tu_pairs l1) (fun pre => ∃ k, pre = (tu_pairs l1).take k) (tu_pairs l1).length w := fun l J Jx W hW hJ hJx hY h0 => by
  refine callsIn_of_wp Try.func32 rfl trivial ?_ rfl
  simp only [Try.ntmps32, List.size_toArray, List.length_cons, List.length_nil, Nat.reduceAdd, Nat.reduceSub, Array.replicate_succ, Array.replicate_zero, List.push_toArray, List.append_toArray, List.nil_append, List.cons_append]
  have HBL := Aside0.mk ((hW.block BL (blk_lt hbl)).trans hbl)
  have HW := Aside0.mk (hB.trans (hW.mono hB.size))
  have hpl := tu_pairs_len l1
  have HPN := Aside0.mk hpl
  clear hbl hB hW hpl
  gi_wp2
  gi_loopw [3] (fun v wr => ∃ (i j : Nat) (pre : List (Int × Int)), v = .int .i64 (j : Int) ∧ Aside0 (j = 2 * i ∧ j ≤ l1.length) ∧ Aside0 (pre = (tu_pairs l1).take i ∧ pre.length = i) ∧ Aside0 (J pre wr) ∧ Aside0 (KpP w0.heap.size BL W wr)) (fun v _ => l1.length + 1 - (intOf v).toNat)
  case atStart => exact ⟨0, 0, [], rfl, ⟨⟨rfl, Nat.zero_le _⟩⟩, ⟨⟨by simp, rfl⟩⟩, ⟨h0⟩, ⟨KpP.refl _ _ _⟩⟩
  case round =>
    obtain ⟨i, j, pre, rfl, HI, HPre, HJs, HK⟩ := hrel
    have hbl2 := HK.out.2 _ HBL.out
    have HBL2 := Aside0.mk hbl2
    have cbl : wr.cell? ⟨BL, 0, none⟩ = some (.slice A1 l1.length c1) := blk_cell hbl2 0
    have cbd : wr.drew.cell? ⟨BL, 0, none⟩ = some (.slice A1 l1.length c1) := blk_cell (blk_drew hbl2) 0
    have HW2 := Aside0.mk (HW.out.trans HK.out.1)
    have HY := Aside0.mk hY
    clear hbl2 hY
    have hji := HI.out
    have hw0 : wrap64 ((j : Int) + 1) = ((j + 1 : Nat) : Int) := by unfold wrap64; omega
    by_cases hlt : j + 1 < l1.length
    · have hg := tu_pairs_take l1 i (by omega)
      rw [← hji.1] at hg
      obtain ⟨ad, e, hx⟩ := Kd.at_int HC.out (j : Int) (by omega) (by omega)
      cases e
      obtain ⟨ae, e, hy⟩ := Kd.at_int HC.out ((j + 1 : Nat) : Int) (by omega) (by omega)
      cases e
      rw [Int.toNat_natCast] at hx hy
      generalize rd l1 (j : Int) = x1 at hg hx
      generalize rd l1 ((j + 1 : Nat) : Int) = x2 at hg hy
      have hx2 := pw_cell_below HW2.out hx
      have hy2 := pw_cell_below HW2.out hy
      have hxd : wr.drew.cell? (ad.add j) = some (.int .i32 x1) := hx2
      have hyd : wr.drew.cell? (ad.add (j + 1)) = some (.int .i32 x2) := hy2
      have hyd2 : wr.drew.cell? ⟨ad.block, ad.off + (j + 1), none⟩ = some (.int .i32 x2) := hyd
      have hy22 : wr.cell? ⟨ad.block, ad.off + (j + 1), none⟩ = some (.int .i32 x2) := hyd
      obtain ⟨fn, tmps, assign, body, hyy, hR⟩ := HY.out pre (x1, x2) wr.drew (hJ _ _ _ none HJs.out (tu_drewn wr) (fun r e => by cases e)) (by rw [HPre.out.2, HPN.out]; omega)
      dsimp only at hyy
      have HG := Aside0.mk hg
      have q1 : (0 ≤ wrap64 ((j : Int) + 1)) = True := eq_true (by rw [hw0]; omega)
      have q2 : (wrap64 ((j : Int) + 1) < (l1.length : Int)) = True := eq_true (by rw [hw0]; omega)
      have q3 : decide (wrap64 ((j : Int) + 1) < (l1.length : Int)) = true := decide_eq_true (by rw [hw0]; omega)
      have q4 : (wrap64 ((j : Int) + 1)).toNat = j + 1 := by rw [hw0]; omega
      have hiw : IntKind.i64.wrap ((j : Int) + 1) = ((j + 1 : Nat) : Int) := by rw [i64_w]; exact hw0
      have q5 : (0 ≤ IntKind.i64.wrap ((j : Int) + 1)) = True := eq_true (by rw [hiw]; omega)
      have q6 : (IntKind.i64.wrap ((j : Int) + 1) < (l1.length : Int)) = True := eq_true (by rw [hiw]; omega)
      have q7 : (IntKind.i64.wrap ((j : Int) + 1)).toNat = j + 1 := by rw [hiw]; omega
      clear hiw
      have p1 : (0 ≤ (j : Int)) = True := eq_true (by omega)
      have p3 : ((j : Int) < (l1.length : Int)) = True := eq_true (by omega)
      have p8 : (j < l1.length) = True := eq_true (by omega)
      have HLt := Aside0.mk hlt
      have HW0 := Aside0.mk hw0
      clear hlt hw0 hx hy hg hji
      have hR2 := hR.mono (R' := fun e W' => ∃ b : Bool, e = .returned (.bool b) ∧ (b = true → J (pre ++ [(x1, x2)]) W' ∧ KpP w0.heap.size BL wr.drew W') ∧ (b = false → Jx (pre ++ [(x1, x2)]) W')) (by
        rintro e W' (⟨rfl, q1, q2⟩ | ⟨rfl, q1⟩)
        · exact ⟨true, rfl, fun _ => ⟨q1, q2⟩, fun h => by cases h⟩
        · exact ⟨false, rfl, fun h => (by cases h), fun _ => q1⟩)
      clear hR
      have hmx : Try.prog.follows .mixedOrders = true := by kernel_rfl
      gi_wp2
      refine wpIn_mono (Q := fun e a' W' => match e with | .normal => (∃ b3 : Bool, a' = { tmps := #[.func (.yield l) #[] #[], .pointer (some ⟨BL, 0, none⟩), undef, .int .i64 j, .int .i64 j, .int .i64 (wrap64 ((j : Int) + 1)), .slice (some ad) l1.length c1, .int .i64 l1.length, .bool true, u9, u10, .func (.yield l) #[] #[], .slice (some ad) l1.length c1, .int .i64 j, .pointer (some (ad.add j)), .int .i32 x1, .slice (some ad) l1.length c1, .int .i64 j, .int .i64 (IntKind.i64.wrap ((j : Int) + 1)), .pointer (some ⟨ad.block, ad.off + (j + 1), none⟩), .int .i32 x2, .bool b3, .bool !b3], defers := [] } ∧
        (b3 = true → J (pre ++ [(x1, x2)]) W' ∧ KpP w0.heap.size BL wr.drew W') ∧ (b3 = false → Jx (pre ++ [(x1, x2)]) W')) | _ => False) ?reg ?cont
      case reg =>
        gi_region_with_o (refine hR2.mono ?_; rintro e W3 ⟨b3, rfl, h3, h4⟩)
        all_goals exact ⟨b3, rfl, h3, h4⟩
      case cont =>
        intro e a' W3 hh
        cases e <;> try exact hh.elim
        obtain ⟨b3, rfl, h3, h4⟩ := hh
        have H3 := Aside0.mk h3
        have H4 := Aside0.mk h4
        clear h3 h4 hR2
        cases b3 with
        | false =>
          gi_wp2
          refine bodyPost_ret (results_none rfl _ _ _) rfl ?_
          exact ⟨⟨_, rfl⟩, .inr ⟨_, ⟨i + 1, by rw [HPre.out.1, List.take_add_one, HG.out]; rfl⟩, H4.out (by first | rfl | trivial)⟩⟩
        | true =>
          have hw1 : wrap64 ((j : Int) + 2) = ((j + 2 : Nat) : Int) := by have := HI.out; have := HLt.out; unfold wrap64; omega
          have HW1 := Aside0.mk hw1
          clear hw1
          gi_wp2
          go_roundw
          case rel => exact ⟨i + 1, j + 2, pre ++ [(x1, x2)], congrArg (Value.int .i64) HW1.out, ⟨by have h1 := HI.out; have h2 := HLt.out; exact ⟨by omega, by omega⟩⟩, ⟨⟨by rw [HPre.out.1, List.take_add_one, HG.out]; rfl, by rw [List.length_append, HPre.out.2]; rfl⟩⟩, ⟨(H3.out (by first | rfl | trivial)).1⟩, ⟨HK.out.trans (KpP.trans ⟨below_drew (Below.refl _ _), fun o e => e⟩ (H3.out (by first | rfl | trivial)).2)⟩⟩
          case measure => exact tu_meas _ _ HLt.out HW1.out
    · have q3 : decide (wrap64 ((j : Int) + 1) < (l1.length : Int)) = false := decide_eq_false (by rw [hw0]; omega)
      have hp := HPre.out.1
      rw [List.take_of_length_le (by rw [HPN.out]; omega)] at hp
      have HP := Aside0.mk hp
      clear hp hw0 hlt hji
      gi_wp2
      go_end0
      exact ⟨⟨_, rfl⟩, .inl ⟨pre, HP.out, HJs.out⟩⟩
end

end Go.Proofs.Ytbfepcajbbeheaa.P

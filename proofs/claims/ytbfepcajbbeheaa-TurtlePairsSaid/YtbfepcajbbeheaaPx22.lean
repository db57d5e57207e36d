-- Written by a program of this session (wip/tools/hp.py) out of the translation.
import Derived.Test.YtbfepcajbbeheaaPx0
import Derived.Test.YtbfepcajbbeheaaPx1
import Derived.Test.YtbfepcajbbeheaaPx2
import Derived.Test.YtbfepcajbbeheaaPx8
namespace Go.Proofs.Ytbfepcajbbeheaa.P
open Go.RowKit Go.Proofs.YtbfepcajbbeheaaW.PrintWords Go.Proofs.YtbfepcajbbeheaaW.PrintLast Go.Proofs.YtbfepcajbbeheaaW.PrintMore
attribute [local go_sem] max2_int min2_int max_two min_two max_three min_three max_four min_four   -- for this text's walks alone
set_option linter.unusedVariables false
set_option linter.unusedSimpArgs false

/-! ### pascalinelaw32_TurtlePairs: function 6 -/
open Go.Proofs.Ytbfepcajbbeheaa.C
def pascalinelaw32_TurtlePairs.f (l0 : List Int) (a1 : Int) : Option Bool := if 0 ≤ a1 ∧ a1 ≤ 255 then some true else none
theorem tp_eql {P : Program} {t : TypeId} {a b : Array TypeId} {c : Bool} (hp : P.underlying t = some (.func a b c)) (f : Fn) (xs ys : Array Value) (w : World) : (binOp .eql t (.func f xs ys) .nilFunc).run P w = .ok (.bool false) w := by
  have h : ∀ d : Nat, (Op.equalIn (d + 1) t (.func f xs ys) .nilFunc).run P w = .ok false w := fun d => by
    simp [Op.equalIn, run_underlying hp]
  simp only [binOp]
  simp [Op.equal, Op.maxDepth, h 9999]
theorem tp_nums (n : Nat) (h : n ≤ 255) : wrap64 (2 * (n : Int)) = 2 * (n : Int) ∧ wrap64 (2 * (n : Int) + 1) = 2 * (n : Int) + 1 ∧ IntKind.i64.wrap (2 * (n : Int)) = 2 * (n : Int) ∧ IntKind.i64.wrap (2 * (n : Int) + 1) = 2 * (n : Int) + 1 ∧ wrap64 ((n : Int) + 1) = (n : Int) + 1 ∧ (2 * (n : Int)).toNat = 2 * n ∧ (2 * (n : Int) + 1).toNat = 2 * n + 1 := by
  have m1 : wrap64 (2 * (n : Int)) = 2 * (n : Int) := by unfold wrap64; omega
  have m2 : wrap64 (2 * (n : Int) + 1) = 2 * (n : Int) + 1 := by unfold wrap64; omega
  exact ⟨m1, m2, (i64_w _).trans m1, (i64_w _).trans m2, by unfold wrap64; omega, by omega, by omega⟩
section
attribute [local go_sem] Oper.semAt_some
set_option maxRecDepth 100000 in
set_option maxHeartbeats 8000000 in
theorem pascalinelaw32_TurtlePairs.calls (A0 : Option Addr) (c0 : Nat) (l0 : List Int) (a1 : Int) (r : Bool) (w : World) (hr0 : Kd.C (Kd.int .i32) w A0 l0.length l0) (hc0 : l0.length ≤ c0) (h : pascalinelaw32_TurtlePairs.f l0 a1 = some r) :
    Calls Try.prog 6 #[.slice A0 l0.length c0, .int .u8 a1] w fun e w' => e = .returned (.bool r) ∧ Below w.heap.size w w' := by
  have ha : 0 ≤ a1 ∧ a1 ≤ 255 := by
    unfold pascalinelaw32_TurtlePairs.f at h
    split at h
    · assumption
    · cases h
  have hrt : r = true := by
    unfold pascalinelaw32_TurtlePairs.f at h
    rw [if_pos ha] at h
    injection h with h
    exact h.symm
  subst hrt
  have hlen : l0.length ≤ 9223372036854775807 := hr0.2.1
  have HC := Aside0.mk hr0; have HLn := Aside0.mk hlen
  clear hr0 hc0 h
  have hnf := fun (xs ys : Array Value) (w' : World) => tp_eql Try.underlying55 (.func 32) xs ys w'
  have ha0 := ha.1
  have ha1 := ha.2
  clear ha
  refine (callsIn_wide (n := 5)).1 ?_
  refine callsIn_of_wp_marks Try.func6 rfl trivial ?_ rfl
  simp only [Try.ntmps6, List.size_toArray, List.length_cons, List.length_nil, Nat.reduceAdd, Nat.reduceSub, Array.replicate_succ, Array.replicate_zero, List.push_toArray, List.append_toArray, List.nil_append, List.cons_append]
  have hq1 := blk_new w (.cells #[.slice A0 l0.length c0] 53)
  have hq2 : ((w.alloc (.cells #[.slice A0 l0.length c0] 53)).alloc (.cells #[.bool false] 4)).heap[w.heap.size]? = some (.cells #[.slice A0 l0.length c0] 53 (0, 0)) := blk_alloc hq1 _
  have hq3 : ((w.alloc (.cells #[.slice A0 l0.length c0] 53)).alloc (.cells #[.bool false] 4)).heap[w.heap.size + 1]? = some (.cells #[.bool false] 4 (0, 0)) := by
    have := blk_new (w.alloc (.cells #[.slice A0 l0.length c0] 53)) (.cells #[.bool false] 4)
    rwa [World.size_alloc] at this
  have hq4 : Below w.heap.size w ((w.alloc (.cells #[.slice A0 l0.length c0] 53)).alloc (.cells #[.bool false] 4)) := below_alloc (below_alloc (Below.refl _ _) _) _
  have H2 := Aside0.mk hq2; have H3 := Aside0.mk hq3; have H4 := Aside0.mk hq4
  clear hq1 hq2 hq3 hq4
  gi_wp2_with (first | (refine ⟨trivial, ?_⟩; gi_at_call 8; refine (callsIn_wide.2 (tu_awake_calls _)).mono ?_; rintro e w1 ⟨rfl, hb⟩; have hb2 := (hb.block _ (blk_lt H2.out)).trans H2.out; have hb3 := (hb.block _ (blk_lt H3.out)).trans H3.out; have k2 : w1.cell? ⟨w.heap.size, 0, none⟩ = some (.slice A0 l0.length c0) := blk_cell hb2 0; have B2 := Aside0.mk hb2; have B3 := Aside0.mk hb3; have HB1 := Aside0.mk (below_step H4.out hb); clear hb hb2 hb3) | (refine ⟨trivial, ?_⟩; gi_at_call 19; refine (callsIn_wide.2 (tu_Pairs_calls _ _ ⟨_, _, _, rfl⟩)).mono ?_; rintro e w4 ⟨rfl, rfl⟩))
  obtain ⟨g1, g2, g3, g4⟩ := tu_start3 w1 (.cells #[.slice A0 l0.length c0] 53) (.cells #[.int .i64 0] 3) (.cells #[.int .i64 a1] 3)
  obtain ⟨W0, hW0⟩ : ∃ W0, (((w1.alloc (.cells #[.slice A0 l0.length c0] 53)).alloc (.cells #[.int .i64 0] 3)).alloc (.cells #[.int .i64 a1] 3)) = W0 := ⟨_, rfl⟩
  rw [hW0] at g1 g2 g3 g4 ⊢
  clear hW0
  have g5 := (g4.block _ (blk_lt B2.out)).trans B2.out
  have g6 := (g4.block _ (blk_lt B3.out)).trans B3.out
  have hB0 : Below w.heap.size w W0 := below_step HB1.out g4
  have hlt3 := blk_lt g3
  have hs1 := HB1.out.size
  have hlt0 := blk_lt B3.out
  have hpl := tu_pairs_len l0
  refine wpIn_rangeFunc_ownF rfl (by omega) (gf := 32) (lb := #[.pointer (some ⟨w1.heap.size, 0, none⟩)]) rfl trivial (enters_of Try.func32 (by kernel_rfl) rfl)
    (tu_iter (5 - 1) (by omega) A0 c0 l0 w W0 w1.heap.size HC hlen hB0 g1) (fun h k => KpP.trans h k) (fun W l o o' h0 h hc hw => ⟨belowK_b (by omega) W l o o' h0 h hc hw, fun q e => (World.putObj_heap_other (by omega)).trans e⟩) (Below.refl _ _) (fun _ => rfl)
    (fun pre W => ((pre.length : Int) ≤ a1 ∧ W.heap[w.heap.size]? = some (.cells #[.slice A0 l0.length c0] 53 (0, 0)) ∧ W.heap[w.heap.size + 1]? = some (.cells #[.bool false] 4 (0, 0)) ∧ W.heap[w1.heap.size]? = some (.cells #[.slice A0 l0.length c0] 53 (0, 0)) ∧ W.heap[w1.heap.size + 1]? = some (.cells #[.int .i64 (pre.length : Nat)] 3 (0, 0)) ∧ W.heap[w1.heap.size + 1 + 1]? = some (.cells #[.int .i64 a1] 3 (0, 0))) ∧ Below w.heap.size w W)
    (fun c pre W => (c = .ret ∧ ∃ v, W.heap[w.heap.size + 1]? = some (.cells #[.bool v] 4 (0, 0)) ∧ (v = true ∨ ¬ ∃ k, pre = (tu_pairs l0).take k)) ∧ Below w.heap.size w W)
    (OwnFrom.and (Own.from (fun s A B row hs hg hr => ⟨hs.1, tu_blk_grown hs.2.1 hg hr, tu_blk_grown hs.2.2.1 hg hr, tu_blk_grown hs.2.2.2.1 hg hr, tu_blk_grown hs.2.2.2.2.1 hg hr, tu_blk_grown hs.2.2.2.2.2 hg hr⟩) _) (ownFrom_below (Nat.le_refl _) (by omega)))
    (fun c => OwnFrom.and (Own.from (fun s A B row hs hg hr => ⟨hs.1, (by obtain ⟨v, h1, h2⟩ := hs.2; exact ⟨v, tu_blk_grown h1 hg hr, h2⟩)⟩) _) (ownFrom_below (Nat.le_refl _) (by omega)))
    ⟨⟨ha0, g5, g6, g1, g2, g3⟩, hB0⟩
    (fun x => { tmps := #[.slice A0 l0.length c0, .int .u8 a1, .pointer (some ⟨w.heap.size, 0, none⟩), undef, .pointer (some ⟨w.heap.size + 1, 0, none⟩), .func (.func 32) #[] #[.pointer (some ⟨w1.heap.size, 0, none⟩)], .pointer (some ⟨w1.heap.size + 1, 0, none⟩), .pointer (some ⟨w1.heap.size + 1 + 1, 0, none⟩), .int .i32 x.1, .int .i32 x.2, .bool true, .bool false, .slice A0 l0.length c0, .func (.func 32) #[] #[.pointer (some ⟨w1.heap.size, 0, none⟩)], .func (.func 32) #[] #[.pointer (some ⟨w1.heap.size, 0, none⟩)], .bool false, .int .u8 a1, .int .i64 a1, .func (.func 32) #[] #[.pointer (some ⟨w1.heap.size, 0, none⟩)], .int .i32 x.1, .int .i32 x.2, undef, undef, undef, undef, undef, undef, undef, undef, undef, undef, undef, undef, undef, undef, undef, undef, undef, undef, undef, undef, undef, undef, undef, undef, undef, undef, undef, undef, undef, undef, undef, undef, undef, undef, undef, undef, undef, undef, undef, undef], defers := [] }) ?assign ?body ?done ?stop
  case assign =>
    intro l x W K hK
    gi_wp2
    exact hK
  case body =>
    rintro lr pre x W ⟨⟨hle, h2, h3, h5, h6, h7⟩, hB⟩ hlen2
    have hn : 2 * pre.length + 1 < l0.length := by omega
    have hpt := tu_pairs_take l0 pre.length hn
    obtain ⟨ad, e, hx⟩ := Kd.at_int HC.out (2 * (pre.length : Int)) (by omega) (by omega)
    cases e
    obtain ⟨ae, e, hy⟩ := Kd.at_int HC.out (2 * (pre.length : Int) + 1) (by omega) (by omega)
    cases e
    rw [show (2 * (pre.length : Int)).toNat = 2 * pre.length from by omega] at hx
    rw [show (2 * (pre.length : Int) + 1).toNat = 2 * pre.length + 1 from by omega] at hy
    rw [show ((2 * pre.length : Nat) : Int) = 2 * (pre.length : Int) from by omega, show ((2 * pre.length + 1 : Nat) : Int) = 2 * (pre.length : Int) + 1 from by omega] at hpt
    generalize rd l0 (2 * (pre.length : Int)) = y1 at hpt hx
    generalize rd l0 (2 * (pre.length : Int) + 1) = y2 at hpt hy
    have hx2 := pw_cell_below hB hx
    have hy2 := pw_cell_below hB hy
    obtain ⟨n, hnn⟩ : ∃ n, pre.length = n := ⟨_, rfl⟩
    rw [hnn] at hle hn hpt hx2 hy2 h6
    have hy3 : W.cell? ⟨ad.block, ad.off + (2 * n + 1), none⟩ = some (.int .i32 y2) := hy2
    have k2 : W.cell? ⟨w.heap.size, 0, none⟩ = some (.slice (some ad) l0.length c0) := blk_cell h2 0
    have k3 : W.cell? ⟨w.heap.size + 1, 0, none⟩ = some (.bool false) := blk_cell h3 0
    have z3 := blk_frozen h3 0
    have k6 : W.cell? ⟨w1.heap.size + 1, 0, none⟩ = some (.int .i64 (n : Nat)) := blk_cell h6 0
    have z6 := blk_frozen h6 0
    have k7 : W.cell? ⟨w1.heap.size + 1 + 1, 0, none⟩ = some (.int .i64 a1) := blk_cell h7 0
    have hn255 : n ≤ 255 := by omega
    have q1 : ((l0.length : Int) ≤ 2 * (n : Int) + 1) = False := eq_false (by omega)
    have q2 : decide ((l0.length : Int) ≤ 2 * (n : Int) + 1) = false := decide_eq_false (by omega)
    have q3 : (0 ≤ 2 * (n : Int)) = True := eq_true (by omega)
    have q4 : (2 * (n : Int) < (l0.length : Int)) = True := eq_true (by omega)
    have q5 : (0 ≤ 2 * (n : Int) + 1) = True := eq_true (by omega)
    have q6 : (2 * (n : Int) + 1 < (l0.length : Int)) = True := eq_true (by omega)
    have q7 : decide (a1 < (n : Int)) = false := decide_eq_false (by omega)
    have q8 : (a1 < (n : Int)) = False := eq_false (by omega)
    have H2W := Aside0.mk h2; have H3W := Aside0.mk h3; have H5W := Aside0.mk h5; have H6W := Aside0.mk h6; have H7W := Aside0.mk h7; have HBW := Aside0.mk hB; have HPT := Aside0.mk hpt; have HNN := Aside0.mk hnn
    obtain ⟨m1, m2, m3, m4, m5, t1, t2⟩ := tp_nums n hn255
    have HM5 := Aside0.mk m5
    clear m5
    obtain ⟨x1, x2⟩ := x
    dsimp only
    clear h2 h3 h5 h6 h7 hB hpt hx hy hlen2 hnn
    by_cases e1 : x1 = y1
    · by_cases e2 : x2 = y2
      · have c1 : (x1 == y1) = true := beq_iff_eq.mpr e1
        have c2 : (x1 != y1) = false := bne_eq_false_iff_eq.mpr e1
        have c3 : (x2 == y2) = true := beq_iff_eq.mpr e2
        have c4 : (x2 != y2) = false := bne_eq_false_iff_eq.mpr e2
        clear e1 e2
        by_cases hm : a1 < (n : Int) + 1
        · have d1 : decide (a1 < (n : Int) + 1) = true := decide_eq_true hm
          have d2 : (a1 < (n : Int) + 1) = True := eq_true hm
          have d3 : decide (a1 ≤ (n : Int)) = true := decide_eq_true (Int.lt_add_one_iff.1 hm)
          have d4 : (a1 ≤ (n : Int)) = True := eq_true (Int.lt_add_one_iff.1 hm)
          clear hm
          gi_wp2
          clear m1 m2 m3 m4 t1 t2
          exact ⟨(KeepsOthers.setCell _ _ _).trans (KeepsOthers.setCell _ _ _), ⟨rfl, true, by rw [blk_put (tu_other (b := w1.heap.size + 1) (i := 0) (v := .int .i64 ((n : Int) + 1)) H3W.out (by omega)) 0 _ rfl]; rfl, .inl rfl⟩, (HBW.out.setCell (p := ⟨w1.heap.size + 1, 0, none⟩) (by show w.heap.size ≤ w1.heap.size + 1; omega) _).setCell (p := ⟨w.heap.size + 1, 0, none⟩) (by show w.heap.size ≤ w.heap.size + 1; omega) _⟩
        · have HM := Aside0.mk hm
          have d1 : decide (a1 < (n : Int) + 1) = false := decide_eq_false hm
          have d2 : (a1 < (n : Int) + 1) = False := eq_false hm
          have d3 : decide (a1 ≤ (n : Int)) = false := decide_eq_false (fun h => hm (Int.lt_add_one_iff.2 h))
          have d4 : (a1 ≤ (n : Int)) = False := eq_false (fun h => hm (Int.lt_add_one_iff.2 h))
          clear hm
          gi_wp2
          clear m1 m2 m3 m4 t1 t2
          refine ⟨KeepsOthers.setCell _ _ _, ⟨(Below.refl _ _).setCell (p := ⟨w1.heap.size + 1, 0, none⟩) (by show w.heap.size ≤ w1.heap.size + 1; omega) _, fun o e => ?_⟩, ⟨⟨by rw [List.length_append, List.length_singleton, HNN.out]; have := HM.out; omega, tu_other H2W.out (by omega), tu_other H3W.out (by omega), tu_other H5W.out (by omega), ?_, tu_other H7W.out (by omega)⟩, HBW.out.setCell (p := ⟨w1.heap.size + 1, 0, none⟩) (by show w.heap.size ≤ w1.heap.size + 1; omega) _⟩⟩
          · exact tu_other e (by omega)
          · rw [blk_put H6W.out 0 _ rfl, List.length_append, List.length_singleton, HNN.out]; rfl
      · have c1 : (x1 == y1) = true := beq_iff_eq.mpr e1
        have c2 : (x1 != y1) = false := bne_eq_false_iff_eq.mpr e1
        have c3 : (x2 == y2) = false := beq_eq_false_iff_ne.mpr e2
        have c4 : (x2 != y2) = true := bne_iff_ne.mpr e2
        have hbad : ¬ ∃ k, pre ++ [(x1, x2)] = (tu_pairs l0).take k := by
          rintro ⟨k, hk⟩
          have h1 := congrArg (fun L => L[pre.length]?) hk
          simp only [List.getElem?_append_right (Nat.le_refl _), Nat.sub_self, List.getElem?_cons_zero, List.getElem?_take] at h1
          split at h1
          · rw [HNN.out, HPT.out] at h1
            injection h1 with h1
            injection h1 with h1 h2
            exact e2 h2
          · cases h1
        have HBAD := Aside0.mk hbad
        clear hbad
        gi_wp2
        clear m1 m2 m3 m4 t1 t2
        exact ⟨KeepsOthers.setCell _ _ _, ⟨rfl, false, by rw [blk_put H3W.out 0 _ rfl]; rfl, .inr HBAD.out⟩, HBW.out.setCell (p := ⟨w.heap.size + 1, 0, none⟩) (by show w.heap.size ≤ w.heap.size + 1; omega) _⟩
    · have c1 : (x1 == y1) = false := beq_eq_false_iff_ne.mpr e1
      have c2 : (x1 != y1) = true := bne_iff_ne.mpr e1
      have hbad : ¬ ∃ k, pre ++ [(x1, x2)] = (tu_pairs l0).take k := by
        rintro ⟨k, hk⟩
        have h1 := congrArg (fun L => L[pre.length]?) hk
        simp only [List.getElem?_append_right (Nat.le_refl _), Nat.sub_self, List.getElem?_cons_zero, List.getElem?_take] at h1
        split at h1
        · rw [HNN.out, HPT.out] at h1
          injection h1 with h1
          injection h1 with h1 h2
          exact e1 h1
        · cases h1
      have HBAD := Aside0.mk hbad
      clear hbad
      gi_wp2
      clear m1 m2 m3 m4 t1 t2
      exact ⟨KeepsOthers.setCell _ _ _, ⟨rfl, false, by rw [blk_put H3W.out 0 _ rfl]; rfl, .inr HBAD.out⟩, HBW.out.setCell (p := ⟨w.heap.size + 1, 0, none⟩) (by show w.heap.size ≤ w.heap.size + 1; omega) _⟩
  case done =>
    rintro D xs W hD hxs ⟨⟨hle, h2, h3, h5, h6, h7⟩, hB⟩ hK
    subst hxs
    have hq : (tu_pairs l0).length = l0.length / 2 := hpl
    have k2 : W.cell? ⟨w.heap.size, 0, none⟩ = some (.slice A0 l0.length c0) := blk_cell h2 0
    have k3 : W.cell? ⟨w.heap.size + 1, 0, none⟩ = some (.bool false) := blk_cell h3 0
    have z3 := blk_frozen h3 0
    rw [hq] at h6
    have k6 : W.cell? ⟨w1.heap.size + 1, 0, none⟩ = some (.int .i64 ((l0.length / 2 : Nat) : Int)) := blk_cell h6 0
    have s1 : (((l0.length / 2 : Nat) : Int) == (l0.length : Int).tdiv 2) = true := by rw [Int.ofNat_tdiv]; simp
    have H3W := Aside0.mk h3; have HBW := Aside0.mk hB; have HK := Aside0.mk hK
    clear h2 h3 h5 h6 h7 hB hK hle hq
    gi_wp2
    have hKK := (KeepsOthers.setCell W ⟨w.heap.size + 1, 0, none⟩ (.bool true)).same D _ HK.out rfl
    refine ⟨by simp, .inl ⟨_, _, rfl, run_takeDeferred hKK, ?_⟩⟩
    have f2 := tu_cell_put (W := W.setCell ⟨w.heap.size + 1, 0, none⟩ (.bool true)) (D := D) (o := .deferred none) (blk_put H3W.out 0 (.bool true) rfl) (by omega)
    refine ⟨.bool true, ?_, rfl, ?_⟩
    · simp [results, Try.f6, go_sem, f2]
    · exact Below.trans (HBW.out.setCell (p := ⟨w.heap.size + 1, 0, none⟩) (by show w.heap.size ≤ w.heap.size + 1; omega) _) (belowK_b (w := w) (Nat.le_refl _) _ D _ _ (by omega) hKK rfl rfl)
  case stop =>
    rintro D c2 pre W hD hpre ⟨⟨rfl, v, q3, hv⟩, hB⟩ hK
    have hv2 : v = true := hv.resolve_right (fun hn => hn hpre)
    subst hv2
    gi_wp2
    refine ⟨by simp, .inl ⟨_, _, rfl, run_takeDeferred hK, ?_⟩⟩
    have f2 := tu_cell_put (D := D) (o := .deferred none) q3 (by omega)
    refine ⟨.bool true, ?_, rfl, ?_⟩
    · simp [results, Try.f6, go_sem, f2]
    · exact Below.trans hB (belowK_b (w := w) (Nat.le_refl _) W D _ _ (by omega) hK rfl rfl)
end

end Go.Proofs.Ytbfepcajbbeheaa.P

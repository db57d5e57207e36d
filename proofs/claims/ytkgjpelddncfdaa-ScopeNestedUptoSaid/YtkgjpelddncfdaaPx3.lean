-- Written by a program of this session (wip/tools/hp.py) out of the translation.
import Derived.Test.YtkgjpelddncfdaaPx0
namespace Go.Proofs.Ytkgjpelddncfdaa.P
open Go.RowKit Go.Proofs.YtkgjpelddncfdaaW.PrintWords Go.Proofs.YtkgjpelddncfdaaW.PrintLast Go.Proofs.YtkgjpelddncfdaaW.PrintMore
attribute [local go_sem] max2_int min2_int max_two min_two max_three min_three max_four min_four   -- for this text's walks alone
set_option linter.unusedVariables false
set_option linter.unusedSimpArgs false

/-! ### scope_Scopes_Close: function 12 -/
/-- A slice's value. -/
structure SV where
  A : Option Addr
  n : Nat
  c : Nat
def SV.v (x : SV) : Value := .slice x.A x.n x.c
/-- A row of such values, no word on what they lead to. -/
def kSV : Kd SV := Kd.scalar SV.v (fun _ => rfl)
/-- The scopes in memory, at block g. 'col' gives each block a colour: 1 the struct, 2 the row of rows, 3 all of the modules, 4 + i the i-th row and what it leads to; 0: none of the scopes'. -/
def IsS (base : Nat) (w : World) (g : Nat) (col : Nat → Nat) (D M : List (List S25)) : Prop :=
  ∃ (vo vm : Value) (vs : List SV), w.heap[g]? = some (.cells #[vo, vm] 64 (0, 0)) ∧ col g = 1 ∧
    Kd.R kSV 66 w base (fun k => col k = 2) vo vs ∧ vs.length = D.length ∧
    (∀ (i : Nat) (x : SV) (d : List S25), vs[i]? = some x → D[i]? = some d → Kd.R k25 25 w base (fun k => col k = 4 + i) x.v d) ∧
    Kd.R (Kd.slice 25 k25) 66 w base (fun k => col k = 3) vm M ∧
    (∀ k, col k ≠ 0 → base ≤ k ∧ k < w.heap.size) ∧ (1 ≤ D.length ∧ D.length ≤ 65 ∧ M.length ≤ 64 ∧ ∀ d ∈ D, d.length ≤ 4096)
/-- What a call on the scopes keeps: all that is none of theirs, and the colours. -/
structure ScK (base : Nat) (w w' : World) (col col' : Nat → Nat) : Prop where
  below : Below base w w'
  keep : ∀ k, k < w.heap.size → col k = 0 → w'.heap[k]? = w.heap[k]?
  ext : ∀ k, k < w.heap.size → col' k = col k
theorem ScK.refl (base : Nat) (w : World) (col : Nat → Nat) : ScK base w w col col := ⟨Below.refl _ _, fun _ _ _ => rfl, fun _ _ => rfl⟩
theorem ScK.trans {base : Nat} {a b c : World} {p q r : Nat → Nat} (h : ScK base a b p q) (k : ScK base b c q r) : ScK base a c p r :=
  ⟨h.below.trans k.below, fun i hi h0 => (k.keep i (Nat.lt_of_lt_of_le hi h.below.size) (by rw [h.ext i hi]; exact h0)).trans (h.keep i hi h0), fun i hi => (k.ext i (Nat.lt_of_lt_of_le hi h.below.size)).trans (h.ext i hi)⟩
theorem ScK.of_below {base : Nat} {w w' : World} {col : Nat → Nat} (h : Below w.heap.size w w') (hb : base ≤ w.heap.size) : ScK base w w' col col := ⟨h.mono hb, fun k hk _ => h.block k hk, fun _ _ => rfl⟩
theorem IsS.base {base : Nat} {w : World} {g : Nat} {col : Nat → Nat} {D M : List (List S25)} (h : IsS base w g col D M) : base ≤ g ∧ g < w.heap.size := by
  obtain ⟨vo, vm, vs, _, hg, _, _, _, _, hc, _⟩ := h
  exact hc g (by omega)
theorem IsS.below {base : Nat} {w w' : World} {g : Nat} {col : Nat → Nat} {D M : List (List S25)} (h : IsS base w g col D M) (hb : Below w.heap.size w w') : IsS base w' g col D M := by
  obtain ⟨vo, vm, vs, h1, h2, h3, h4, h5, h6, h7, h8⟩ := h
  exact ⟨vo, vm, vs, (hb.block g (h7 g (by omega)).2).trans h1, h2, Kd.R_below h3 hb, h4, fun i x d hx hd => Kd.R_below (h5 i x d hx hd) hb, Kd.R_below h6 hb, fun k hk => ⟨(h7 k hk).1, Nat.lt_of_lt_of_le (h7 k hk).2 hb.size⟩, h8⟩
theorem IsS.len {base : Nat} {w : World} {g : Nat} {col : Nat → Nat} {D M : List (List S25)} (h : IsS base w g col D M) : 1 ≤ D.length ∧ D.length ≤ 65 ∧ M.length ≤ 64 ∧ ∀ d ∈ D, d.length ≤ 4096 := by
  obtain ⟨vo, vm, vs, _, _, _, _, _, _, _, h⟩ := h
  exact h
/-- Behind a call: the scopes are so and so, all else is kept. -/
def ScDone (base : Nat) (w : World) (g : Nat) (col : Nat → Nat) (D M : List (List S25)) (w' : World) : Prop := ∃ col', IsS base w' g col' D M ∧ ScK base w w' col col'
set_option maxRecDepth 100000 in
theorem sc_Level_calls {base : Nat} {w : World} {g : Nat} {col : Nat → Nat} {D M : List (List S25)} (h : IsS base w g col D M) :
    Calls Try.prog 9 #[.pointer (some ⟨g, 0, none⟩)] w fun e w' => e = .returned (.int .i64 ((D.length : Int) - 1)) ∧ w' = w := by
  obtain ⟨vo, vm, vs, h1, h2, h3, h4, h5, h6, h7, h8, h9, _⟩ := h
  obtain ⟨A, c, rfl⟩ := Kd.R_slice h3
  have c0 : w.cell? ⟨g, 0, none⟩ = some (.slice A vs.length c) := blk_cell h1 0
  rw [h4] at c0
  clear h1 h2 h3 h4 h5 h6 h7
  generalize D.length = n at *
  go_enter Try.func9, Try.ntmps9
  go_wp2
  go_ret
  exact ⟨rfl, rfl⟩
theorem sc_info66 : (Try.prog.info? 66).map (fun i => (i.zero, i.size, i.bytes)) = some (some (.slice none 0 0), 1, 24) := by kernel_rfl
set_option maxRecDepth 100000 in
theorem sc_New_calls (w : World) : Calls Try.prog 20 #[] w fun e w' => ∃ g col, e = .returned (.pointer (some ⟨g, 0, none⟩)) ∧ IsS w.heap.size w' g col [[]] [] ∧ Below w.heap.size w w' := by
  have hm : ∀ W : World, (Instr.makeSlice 62 (.int .i64 1) (.int .i64 1)).run Try.prog W = .ok (.slice (some ⟨W.heap.size, 0, none⟩) 1 1) (W.alloc (.cells #[.slice none 0 0] 66)) := fun W =>
    run_make_row' 62 66 (.slice none 0 0) 24 Try.underlying62 sc_info66 rfl .i64 .i64 1 (by decide) (by decide) W |>.trans (by rw [show madeCells #[Value.slice none 0 0] 1 = #[Value.slice none 0 0] from by simp [madeCells]; exact ⟨0, rfl, rfl⟩])
  go_enter Try.func20, Try.ntmps20
  go_wp2
  go_ret
  refine ⟨w.heap.size + 1, fun k => if k = w.heap.size + 1 then 1 else if k = w.heap.size then 2 else 0, rfl, ⟨.slice (some ⟨w.heap.size, 0, none⟩) 1 1, .slice none 0 0, [⟨none, 0, 0⟩], ?_, by simp, ?_, rfl, ?_, Kd.R_nil _ _ _ _ _, ?_, by simp⟩, below_alloc (below_alloc (Below.refl _ _) _) _⟩
  · have := blk_new (w.alloc (.cells #[.slice none 0 0] 66)) (.cells #[.slice (some ⟨w.heap.size, 0, none⟩) 1 1, .slice none 0 0] 64)
    simpa using this
  · refine Kd.R_alloc (Kd.R_of_own (xs := [(⟨none, 0, 0⟩ : SV)]) ?_ (fun k hk => ?_)) _
    · have h := World.ownsRow_lit (base := w.heap.size) (e := 66) (size := 1) w #[.slice none 0 0] 1 (Nat.le_refl _) (by decide) (by simp)
      simpa [encs, SV.v] using h
    · have : w.heap.size = k := by simpa [Value.ownBlock] using hk
      subst this
      simp
  · intro i x d hx hd
    cases i with
    | zero =>
      have e1 : (⟨none, 0, 0⟩ : SV) = x := by simpa using hx
      have e2 : [] = d := by simpa using hd
      subst e1
      subst e2
      exact Kd.R_nil _ _ _ _ _
    | succ i => simp at hx
  · intro k hk
    dsimp only at hk
    simp only [World.size_alloc]
    split at hk
    · omega
    · split at hk
      · omega
      · exact absurd rfl hk
def recol (col : Nat → Nat) (n m c : Nat) : Nat → Nat := fun k => if n ≤ k ∧ k < m then c else col k
theorem recol_old {col : Nat → Nat} {n m c k : Nat} (h : k < n) : recol col n m c k = col k := by unfold recol; rw [if_neg (by omega)]
theorem recol_new {col : Nat → Nat} {n m c k : Nat} (h : n ≤ k) (h2 : k < m) : recol col n m c k = c := by unfold recol; rw [if_pos ⟨h, h2⟩]
/-- Which blocks a row of colour j may have: those of its colour, and new ones if j is what new ones are coloured by. -/
def OkC (col : Nat → Nat) (n c j k : Nat) : Prop := col k = j ∨ (c = j ∧ n ≤ k)
/-- One of these colours. -/
def Cs (l : List Nat) (c : Nat) : Prop := c ∈ l
instance (l : List Nat) (c : Nat) : Decidable (Cs l c) := inferInstanceAs (Decidable (c ∈ l))
/-- A row of colour j, that may have grown by new blocks if j is what these are coloured by. -/
theorem recol_R {α : Type} {d : Kd α} {e base : Nat} {w w2 : World} {col : Nat → Nat} {c j : Nat} {v : Value} {xs : List α} (hcol : ∀ k, col k ≠ 0 → base ≤ k ∧ k < w.heap.size) (hj : j ≠ 0)
    (h : d.R e w2 base (OkC col w.heap.size c j) v xs) : d.R e w2 base (fun k => recol col w.heap.size w2.heap.size c k = j) v xs := by
  refine Kd.R_mono (Kd.R_bound h) (fun k hk => ?_)
  rcases hk.1 with h1 | ⟨h1, h2⟩
  · rw [recol_old (hcol k (by omega)).2]; exact h1
  · rw [recol_new h2 hk.2.2.1]; exact h1
theorem recol_R0 {α : Type} {d : Kd α} {e base : Nat} {w w2 : World} {col : Nat → Nat} {c j : Nat} {v : Value} {xs : List α} {S : Nat → Prop} (hcol : ∀ k, col k ≠ 0 → base ≤ k ∧ k < w.heap.size) (hj : j ≠ 0)
    (h : d.R e w base (fun k => col k = j) v xs) (hk : Kept w w2 (fun k => S (col k))) (hS : ¬ S j) : d.R e w2 base (fun k => recol col w.heap.size w2.heap.size c k = j) v xs :=
  recol_R hcol hj (Kd.R_mono (Kd.R_kept h hk (fun k e => by rw [e]; exact hS)) (fun _ e => .inl e))
theorem recol_hcol {base : Nat} {w w2 : World} {col : Nat → Nat} {c : Nat} (hcol : ∀ k, col k ≠ 0 → base ≤ k ∧ k < w.heap.size) (hb : base ≤ w.heap.size) (hs : w.heap.size ≤ w2.heap.size) :
    ∀ k, recol col w.heap.size w2.heap.size c k ≠ 0 → base ≤ k ∧ k < w2.heap.size := fun k hk => by
  unfold recol at hk
  split at hk
  · omega
  · have := hcol k hk; omega
theorem recol_ScK {base : Nat} {w w2 : World} {col : Nat → Nat} {c : Nat} {S : Nat → Prop} (hb : Below base w w2) (hk : Kept w w2 (fun k => S (col k))) (hS : ¬ S 0) : ScK base w w2 col (recol col w.heap.size w2.heap.size c) :=
  ⟨hb, fun k hlt h0 => hk.2 k hlt (by show ¬ S (col k); rw [h0]; exact hS), fun k hlt => recol_old hlt⟩
theorem R_slc {α : Type} {d : Kd α} {e base : Nat} {w : World} {ok : Nat → Prop} {v : Value} {xs : List α} (h : d.R e w base ok v xs) : ∃ A n c, v = .slice A n c := by
  obtain ⟨A, c, e⟩ := Kd.R_slice h
  exact ⟨A, _, c, e⟩
theorem get_snoc {α : Type} {l : List α} {x y : α} {i : Nat} (h : (l ++ [x])[i]? = some y) : (i < l.length ∧ l[i]? = some y) ∨ (i = l.length ∧ y = x) := by
  rcases Nat.lt_trichotomy i l.length with hi | hi | hi
  · rw [List.getElem?_append_left hi] at h; exact .inl ⟨hi, h⟩
  · subst hi
    rw [List.getElem?_append_right (Nat.le_refl _), Nat.sub_self] at h
    exact .inr ⟨rfl, by simpa using h.symm⟩
  · rw [List.getElem?_eq_none (by simp; omega)] at h; cases h
set_option maxRecDepth 100000 in
theorem sc_Open_no {base : Nat} {w : World} {g : Nat} {col : Nat → Nat} {D M : List (List S25)} (h : IsS base w g col D M) (hn : D.length = 65) :
    Calls Try.prog 10 #[.pointer (some ⟨g, 0, none⟩)] w fun e w' => e = .returned (.int .i64 240) ∧ w' = w := by
  have HS := Aside0.mk h
  have HN := Aside0.mk (show ((D.length : Int) - 1) = 64 by omega)
  clear h hn
  go_enter Try.func10, Try.ntmps10
  go_wp2_with (go_at_call 9; ((with_reducible refine (sc_Level_calls HS.out).mono ?_)); rintro e w' ⟨rfl, rfl⟩; rw [HN.out])
  go_ret
  exact ⟨rfl, rfl⟩
set_option maxRecDepth 100000 in
set_option maxHeartbeats 1000000 in
theorem sc_Open_yes {base : Nat} {w : World} {g : Nat} {col : Nat → Nat} {D M : List (List S25)} (h : IsS base w g col D M) (hn : D.length < 65) :
    Calls Try.prog 10 #[.pointer (some ⟨g, 0, none⟩)] w fun e w' => e = .returned (.int .i64 0) ∧ ScDone base w g col (D ++ [[]]) M w' := by
  have HS := Aside0.mk h
  obtain ⟨vo, vm, vs, h1, h2, h3, h4, h5, h6, h7, h8, h9, h10, h11⟩ := h
  have hbase := HS.out.base
  obtain ⟨A, c, rfl⟩ := Kd.R_slice h3
  have c0 : w.cell? ⟨g, 0, none⟩ = some (.slice A vs.length c) := blk_cell h1 0
  have f0 := blk_frozen h1 0
  obtain ⟨n, hn'⟩ : ∃ n : Int, n = (D.length : Int) - 1 := ⟨_, rfl⟩
  have hn1 : n < 64 := by omega
  have hn2 : 0 ≤ n := by omega
  have HN := Aside0.mk hn'
  have H1 := Aside0.mk h1; have H2 := Aside0.mk h2; have H3 := Aside0.mk h3; have H4 := Aside0.mk h4; have H5 := Aside0.mk h5; have H6 := Aside0.mk h6; have H7 := Aside0.mk h7
  have H8 := Aside0.mk (And.intro h8 (And.intro h10 h11)); have HB := Aside0.mk hbase; have HL := Aside0.mk hn
  clear h1 h2 h3 h4 h5 h6 h7 h8 h9 h10 h11 hn' hbase hn
  go_enter Try.func10, Try.ntmps10
  go_wp2_with (first
    | (go_at_call 9; ((with_reducible refine (sc_Level_calls HS.out).mono ?_)); rintro e w' ⟨rfl, rfl⟩; rw [← HN.out])
    | ((with_reducible refine gate_builtin (b := .append) (xs := #[.tmp 10, .tmp 11]) rfl ?_); at_builtin; refine Kd.R_append kSV (w0 := w') base rfl (.tmp 10) (.tmp 11) 62 66 (.slice none 0 0) 24 rfl Try.underlying62 sc_info66 rfl (by decide) (by decide) (.slice A vs.length c) vs ⟨none, 0, 0⟩ [.slice none 0 0] (OkC col w'.heap.size 2 2) (fun _ => False) rfl rfl ?aP (fun _ hk => hk.elim) ?aF ?aO ?aB ?aS ?aL ?_; (case aP => exact rfl); (case aF => exact fun k hk => .inr ⟨rfl, hk⟩); (case aO => exact Kd.R_mono H3.out (fun k hk => .inl hk)); (case aB => exact Below.refl _ _); (case aS => have := HB.out; omega); (case aL => have := H4.out; have := HL.out; omega); intro v1 w1 ho hb hg hat; obtain ⟨A1, n1, c1, rfl⟩ := R_slc ho; have hk1 := blk_grown H1.out hg (Kd.R_ne H3.out H1.out (by decide)); have HK1 := Aside0.mk hk1; have c01 : w1.cell? ⟨g, 0, none⟩ = some (.slice A vs.length c) := blk_cell hk1 0; have f01 := blk_frozen hk1 0; have HO := Aside0.mk ho; have HBW := Aside0.mk hb; have HG := Aside0.mk hg; clear hk1 ho hb hg hat))
  go_ret
  have hkept : Kept w' (w1.setCell ⟨g, 0, none⟩ (.slice A1 n1 c1)) (fun k => Cs [1, 2] (col k)) :=
    Kept.setCell (Kept.of_grown HG.out (Kept.refl w' _) (fun k hk => .inl (by have e : col k = 2 := H3.out.1 k hk; rw [e]; decide))) (.inl (by show Cs [1, 2] (col g); rw [H2.out]; decide)) _
  refine ⟨rfl, recol col w'.heap.size (w1.setCell ⟨g, 0, none⟩ (.slice A1 n1 c1)).heap.size 2, ⟨.slice A1 n1 c1, vm, vs ++ [⟨none, 0, 0⟩], blk_put HK1.out 0 _ rfl, ?_, ?_, by simp [H4.out], ?_, ?_, ?_, by simp, by simp; have := HL.out; omega, H8.out.2.1, ?_⟩, recol_ScK (S := Cs [1, 2]) (HBW.out.setCell (p := ⟨g, 0, none⟩) HB.out.1 _) hkept (by decide)⟩
  · rw [recol_old HB.out.2]; exact H2.out
  · exact recol_R H7.out (by decide) (Kd.R_set HO.out HK1.out (by decide) 0 _)
  · intro i x d hx hd
    rcases get_snoc hx with ⟨hi, hx'⟩ | ⟨hi, rfl⟩
    · rw [List.getElem?_append_left (by rw [← H4.out]; exact hi)] at hd
      exact recol_R0 H7.out (by omega) (H5.out i x d hx' hd) hkept (by simp [Cs]; omega)
    · rcases get_snoc hd with ⟨hi2, _⟩ | ⟨_, rfl⟩
      · have := H4.out; omega
      · exact Kd.R_nil _ _ _ _ _
  · exact recol_R0 H7.out (by decide) H6.out hkept (by decide)
  · exact recol_hcol H7.out (by have := HB.out; omega) hkept.1
  · intro d hd
    rcases List.mem_append.1 hd with hd | hd
    · exact H8.out.2.2 d hd
    · rw [List.mem_singleton.1 hd]; simp
set_option maxRecDepth 100000 in
theorem sc_Close_no {base : Nat} {w : World} {g : Nat} {col : Nat → Nat} {D M : List (List S25)} (h : IsS base w g col D M) (hn : D.length = 1) :
    Calls Try.prog 12 #[.pointer (some ⟨g, 0, none⟩)] w fun e w' => e = .returned (.int .i64 111) ∧ w' = w := by
  have HS := Aside0.mk h
  have HN := Aside0.mk (show ((D.length : Int) - 1) = 0 by omega)
  clear h hn
  go_enter Try.func12, Try.ntmps12
  go_wp2_with (go_at_call 9; ((with_reducible refine (sc_Level_calls HS.out).mono ?_)); rintro e w' ⟨rfl, rfl⟩; rw [HN.out])
  go_ret
  exact ⟨rfl, rfl⟩
theorem dropLast_get {α : Type} {l : List α} {i : Nat} {y : α} (h : l.dropLast[i]? = some y) : l[i]? = some y := by
  rw [List.dropLast_eq_take, List.getElem?_take] at h
  split at h
  · exact h
  · cases h
set_option maxRecDepth 100000 in
set_option maxHeartbeats 1000000 in
theorem sc_Close_yes {base : Nat} {w : World} {g : Nat} {col : Nat → Nat} {D M : List (List S25)} (h : IsS base w g col D M) (hn : 1 < D.length) :
    Calls Try.prog 12 #[.pointer (some ⟨g, 0, none⟩)] w fun e w' => e = .returned (.int .i64 0) ∧ ScDone base w g col D.dropLast M w' := by
  have HS := Aside0.mk h
  obtain ⟨vo, vm, vs, h1, h2, h3, h4, h5, h6, h7, h8, h9, h10, h11⟩ := h
  have hbase := HS.out.base
  obtain ⟨A, c, rfl⟩ := Kd.R_slice h3
  have hc := (Kd.R_reads' h3).2.1
  obtain ⟨n, hn'⟩ : ∃ n : Nat, D.length = n + 1 := ⟨D.length - 1, by omega⟩
  have hv : vs.length = n + 1 := by omega
  have hi0 := info_parts sc_info66
  obtain ⟨i0, hi0, _⟩ := hi0
  have hcut := cut_to (P := Try.prog) 62 66 .i64 Try.underlying62 hi0 A (n + 1) c (n : Int) (by omega) (by omega) (by omega)
  rw [Int.toNat_natCast] at hcut
  have H3 := Aside0.mk h3; have H3t := Aside0.mk (Kd.R_take (m := n) h3 (by omega))
  have c0 : w.cell? ⟨g, 0, none⟩ = some (.slice A (n + 1) c) := by rw [← hv]; exact blk_cell h1 0
  have c0d : w.drew.cell? ⟨g, 0, none⟩ = some (.slice A (n + 1) c) := by rw [← hv]; exact blk_cell (blk_drew h1) 0
  have f0 := blk_frozen h1 0
  have f0d := blk_frozen (blk_drew h1) 0
  have hw1 : IntKind.i64.wrap (((n + 1 : Nat) : Int) - 1) = (n : Int) := by rw [i64_w]; unfold wrap64; omega
  have hw0 : IntKind.i64.wrap (n : Int) = (n : Int) := by rw [i64_w]; unfold wrap64; omega
  have hd : ((D.length : Int) - 1 == 0) = false := by rw [beq_eq_false_iff_ne]; omega
  obtain ⟨q, hq⟩ : ∃ q : Int, q = (D.length : Int) - 1 := ⟨_, rfl⟩
  rw [← hq] at hd
  have HQ := Aside0.mk hq
  have H1 := Aside0.mk h1; have H2 := Aside0.mk h2; have H4 := Aside0.mk h4; have H5 := Aside0.mk h5; have H6 := Aside0.mk h6; have H7 := Aside0.mk h7
  have H8 := Aside0.mk (And.intro h8 (And.intro h9 (And.intro h10 h11))); have HB := Aside0.mk hbase; have HL := Aside0.mk hn; have HN := Aside0.mk hn'; have HV := Aside0.mk hv
  clear h1 h2 h3 h4 h5 h6 h7 h8 h9 h10 h11 hn' hbase hn hq hv hc
  go_enter Try.func12, Try.ntmps12
  go_wp2_with (first
    | (go_at_call 9; ((with_reducible refine (sc_Level_calls HS.out).mono ?_)); rintro e w' ⟨rfl, rfl⟩; rw [← HQ.out]))
  go_still_tail 14, (by kernel_rfl)
  change wpList _ _ _ _ _ w'.drew
  go_wp2
  go_ret
  have hkept : Kept w' (w'.drew.setCell ⟨g, 0, none⟩ (.slice A n c)) (fun k => Cs [1] (col k)) :=
    Kept.setCell (Kept.drew (Kept.refl w' _)) (.inl (by show Cs [1] (col g); rw [H2.out]; decide)) _
  have hlt : (vs.take n).length = n := by rw [List.length_take]; have := HV.out; omega
  refine ⟨rfl, recol col w'.heap.size (w'.drew.setCell ⟨g, 0, none⟩ (.slice A n c)).heap.size 2, ⟨.slice A n c, vm, vs.take n, blk_put (blk_drew H1.out) 0 _ rfl, ?_, ?_, ?_, ?_, ?_, ?_, ?_⟩, recol_ScK (S := Cs [1]) ((below_drew (Below.refl _ _)).setCell (p := ⟨g, 0, none⟩) HB.out.1 _) hkept (by decide)⟩
  · rw [recol_old HB.out.2]; exact H2.out
  · exact recol_R H7.out (by decide) (Kd.R_set (Kd.R_drew (Kd.R_mono H3t.out (fun k hk => .inl hk))) (blk_drew H1.out) (by decide) 0 _)
  · rw [hlt]; simp [HN.out]
  · intro i x d hx hd
    have hx' : vs[i]? = some x := by
      rw [List.getElem?_take] at hx
      split at hx
      · exact hx
      · cases hx
    exact recol_R0 H7.out (by omega) (H5.out i x d hx' (dropLast_get hd)) hkept (by simp [Cs]; omega)
  · exact recol_R0 H7.out (by decide) H6.out hkept (by decide)
  · exact recol_hcol H7.out (by have := HB.out; omega) hkept.1
  · have h8 := H8.out
    have hn := HN.out
    have hl := HL.out
    exact ⟨by simp; omega, by simp; omega, h8.2.2.1, fun d hd => h8.2.2.2 d (List.dropLast_subset _ hd)⟩

end Go.Proofs.Ytkgjpelddncfdaa.P

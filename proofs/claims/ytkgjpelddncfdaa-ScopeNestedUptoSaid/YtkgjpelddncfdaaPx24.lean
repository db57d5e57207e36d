-- Written by a program of this session (wip/tools/hp.py) out of the translation.
import Derived.Test.YtkgjpelddncfdaaPx0
import Derived.Test.YtkgjpelddncfdaaPx2
import Derived.Test.YtkgjpelddncfdaaPx3
import Derived.Test.YtkgjpelddncfdaaPx5
import Derived.Test.YtkgjpelddncfdaaPx8
import Derived.Test.YtkgjpelddncfdaaPx15
import Derived.Test.YtkgjpelddncfdaaPx16
import Derived.Test.YtkgjpelddncfdaaPx17
import Derived.Test.YtkgjpelddncfdaaPx18
import Derived.Test.YtkgjpelddncfdaaPx19
import Derived.Test.YtkgjpelddncfdaaPx20
import Derived.Test.YtkgjpelddncfdaaPx21
import Derived.Test.YtkgjpelddncfdaaPx22
import Derived.Test.YtkgjpelddncfdaaPx23
namespace Go.Proofs.Ytkgjpelddncfdaa.P
open Go.RowKit Go.Proofs.YtkgjpelddncfdaaW.PrintWords Go.Proofs.YtkgjpelddncfdaaW.PrintLast Go.Proofs.YtkgjpelddncfdaaW.PrintMore
attribute [local go_sem] max2_int min2_int max_two min_two max_three min_three max_four min_four   -- for this text's walks alone
set_option linter.unusedVariables false
set_option linter.unusedSimpArgs false

/-! ### pascalinelaw11_do: function 21 -/
/-! The document's calls, on values that share (V), with one footprint P. -/
theorem do_new {base g : Nat} {w : World} {col : Nat → Nat} {D M : List (List SO)} (h : IsS base w g col D M) (k : Nat) (hk : w.heap.size ≤ k) : col k = 0 := IsS.new h k hk
def RfPost (P : Nat → Prop) (w : World) (r : List RO × Int × List (List RO) × Int) (e : Ending) (w' : World) : Prop :=
  ∃ (A : Option Addr) (n c : Nat) (A' : Option Addr) (n' c' : Nat), e = .returned (.tuple #[.agg #[.slice A n c, .int .i64 r.2.1, .slice A' n' c'], .int .i64 r.2.2.2]) ∧
    Kd.V k46 46 w' 0 (fun k => P k ∨ w.heap.size ≤ k) (.slice A n c) r.1 ∧ Kd.V (Kd.slice 46 k46) 28 w' 0 (fun k => P k ∨ w.heap.size ≤ k) (.slice A' n' c') r.2.2.1 ∧ Below w.heap.size w w'
theorem rf_post {P : Nat → Prop} {w w' : World} {e : Ending} {r : List RO × Int × List (List RO) × Int} {v0 v2 : Value} (h : e = .returned (.tuple #[.agg #[v0, .int .i64 r.2.1, v2], .int .i64 r.2.2.2]))
    (h0 : Kd.V k46 46 w' w.heap.size (fun k => P k ∨ w.heap.size ≤ k) v0 r.1) (h2 : Kd.V (Kd.slice 46 k46) 28 w' w.heap.size (fun k => P k ∨ w.heap.size ≤ k) v2 r.2.2.1) (hb : Below w.heap.size w w') : RfPost P w r e w' := by
  obtain ⟨A, c, rfl⟩ := Kd.V_slice h0
  obtain ⟨A', c', rfl⟩ := Kd.V_slice h2
  exact ⟨A, _, c, A', _, c', h, h0, h2, hb⟩
def rf_open (L : List RO) (lv : Int) (Ms : List (List RO)) : List RO × Int × List (List RO) × Int := if 64 ≤ lv then (L, lv, Ms, 240) else (L, lv + 1, Ms, 0)
section
variable {P : Nat → Prop} {w : World} {vL vM : Value} {L : List RO} {lv : Int} {Ms : List (List RO)}
theorem rf_Open_calls (hL : Kd.V k46 46 w 0 P vL L) (hM : Kd.V (Kd.slice 46 k46) 28 w 0 P vM Ms) (hlv : 0 ≤ lv ∧ lv ≤ 64) :
    Calls Try.prog 29 #[.agg #[vL, .int .i64 lv, vM]] w (RfPost P w (rf_open L lv Ms)) := by
  obtain ⟨AL, cL, rfl⟩ := Kd.V_slice hL
  obtain ⟨AM, cM, rfl⟩ := Kd.V_slice hM
  have hf : pascalineref11_Open.f L lv Ms = some (rf_open L lv Ms) := by
    unfold pascalineref11_Open.f rf_open
    by_cases h : 64 ≤ lv
    · rw [if_pos h, if_pos h]
    · rw [if_neg h, if_neg h, show wrap64 (lv + 1) = lv + 1 by unfold wrap64; omega]
  refine (pascalineref11_Open.calls P AL cL L lv P AM cM Ms _ _ _ _ w hL hM hf).mono ?_
  rintro e w' ⟨v0, v2, h, h0, h2, hb⟩
  exact rf_post h (Kd.V_mono h0 (fun k hk => by rcases hk with (h | h) | h; exact .inl h; exact .inl h; exact .inr h)) (Kd.V_mono h2 (fun k hk => by rcases hk with (h | h) | h; exact .inl h; exact .inl h; exact .inr h)) hb
theorem rf_Close_calls (hL : Kd.V k46 46 w 0 P vL L) (hM : Kd.V (Kd.slice 46 k46) 28 w 0 P vM Ms) (hlv : 0 ≤ lv ∧ lv ≤ 64) (hn : L.length ≤ 1000) :
    Calls Try.prog 30 #[.agg #[vL, .int .i64 lv, vM]] w (RfPost P w (rf_close L lv Ms)) := by
  obtain ⟨AL, cL, rfl⟩ := Kd.V_slice hL
  obtain ⟨AM, cM, rfl⟩ := Kd.V_slice hM
  refine (pascalineref11_Close.calls 2000 P AL cL L lv P AM cM Ms _ _ _ _ w hL hM (rf_close_f L (by omega) lv hlv Ms 2000 (by omega))).mono ?_
  rintro e w' ⟨v0, v2, h, h0, h2, hb⟩
  exact rf_post h (Kd.V_mono h0 (fun k hk => by rcases hk with (h | h) | h; exact .inl h; exact .inl h; exact .inr h)) (Kd.V_mono h2 (fun k hk => by rcases hk with (h | h) | h; exact .inl h; exact .inl h; exact .inr h)) hb
theorem rf_Declare_calls (hL : Kd.V k46 46 w 0 P vL L) (hM : Kd.V (Kd.slice 46 k46) 28 w 0 P vM Ms) (hn : L.length ≤ 1000) (x : RO) {v7 : Value} (h7 : Kd.V k69 69 w 0 P v7 x.f7) :
    Calls Try.prog 31 #[.agg #[vL, .int .i64 lv, vM], .agg #[.string x.f0, .int .i64 x.f1, .int .i64 x.f2, .int .i64 x.f3, .int .i32 x.f4, .int .i64 x.f5, .bool x.f6, v7]] w (RfPost P w (rf_declare L lv Ms x)) := by
  obtain ⟨AL, cL, rfl⟩ := Kd.V_slice hL
  obtain ⟨AM, cM, rfl⟩ := Kd.V_slice hM
  obtain ⟨A7, c7, rfl⟩ := Kd.V_slice h7
  refine (pascalineref11_Declare.calls 2000 P AL cL L lv P AM cM Ms x.f0 x.f1 x.f2 x.f3 x.f4 x.f5 x.f6 P A7 c7 x.f7 _ _ _ _ w hL hM h7 (rf_declare_f L (by omega) lv Ms x 2000 (by omega))).mono ?_
  rintro e w' ⟨v0, v2, h, h0, h2, hb⟩
  exact rf_post h (Kd.V_mono h0 (fun k hk => by rcases hk with (h | h | h) | h; exact .inl h; exact .inl h; exact .inl h; exact .inr h)) (Kd.V_mono h2 (fun k hk => by rcases hk with (h | h | h) | h; exact .inl h; exact .inl h; exact .inl h; exact .inr h)) hb
theorem rf_Change_calls (hL : Kd.V k46 46 w 0 P vL L) (hM : Kd.V (Kd.slice 46 k46) 28 w 0 P vM Ms) (hn : L.length ≤ 1000) (l : Int) (x : RO) {v7 : Value} (h7 : Kd.V k69 69 w 0 P v7 x.f7) :
    Calls Try.prog 34 #[.agg #[vL, .int .i64 lv, vM], .int .i64 l, .agg #[.string x.f0, .int .i64 x.f1, .int .i64 x.f2, .int .i64 x.f3, .int .i32 x.f4, .int .i64 x.f5, .bool x.f6, v7]] w (RfPost P w (rf_change L lv Ms l x)) := by
  obtain ⟨AL, cL, rfl⟩ := Kd.V_slice hL
  obtain ⟨AM, cM, rfl⟩ := Kd.V_slice hM
  obtain ⟨A7, c7, rfl⟩ := Kd.V_slice h7
  refine (pascalineref11_Change.calls 2000 P AL cL L lv P AM cM Ms l x.f0 x.f1 x.f2 x.f3 x.f4 x.f5 x.f6 P A7 c7 x.f7 _ _ _ _ w hL hM h7 (rf_change_f L (by omega) lv Ms l x 2000 (by omega))).mono ?_
  rintro e w' ⟨v0, v2, h, h0, h2, hb⟩
  exact rf_post h (Kd.V_mono h0 (fun k hk => by rcases hk with (h | h | h) | h; exact .inl h; exact .inl h; exact .inl h; exact .inr h)) (Kd.V_mono h2 (fun k hk => by rcases hk with (h | h | h) | h; exact .inl h; exact .inl h; exact .inl h; exact .inr h)) hb
def RfPost5 (P : Nat → Prop) (w : World) (r : List RO × Int × List (List RO) × Int × Int) (e : Ending) (w' : World) : Prop :=
  ∃ (A : Option Addr) (n c : Nat) (A' : Option Addr) (n' c' : Nat), e = .returned (.tuple #[.agg #[.slice A n c, .int .i64 r.2.1, .slice A' n' c'], .int .i64 r.2.2.2.1, .int .i64 r.2.2.2.2]) ∧
    Kd.V k46 46 w' 0 (fun k => P k ∨ w.heap.size ≤ k) (.slice A n c) r.1 ∧ Kd.V (Kd.slice 46 k46) 28 w' 0 (fun k => P k ∨ w.heap.size ≤ k) (.slice A' n' c') r.2.2.1 ∧ Below w.heap.size w w'
theorem rf_Import_calls (hL : Kd.V k46 46 w 0 P vL L) (hM : Kd.V (Kd.slice 46 k46) 28 w 0 P vM Ms) (hn : L.length ≤ 1000) (hm : Ms.length ≤ 64) (a : ByteArray) (l : List S71) (hl : l.length ≤ 1048576) {v2 : Value} (h2 : Kd.V k71 71 w 0 P v2 l) :
    Calls Try.prog 36 #[.agg #[vL, .int .i64 lv, vM], .string a, v2] w (RfPost5 P w (rf_import L lv Ms a l)) := by
  obtain ⟨AL, cL, rfl⟩ := Kd.V_slice hL
  obtain ⟨AM, cM, rfl⟩ := Kd.V_slice hM
  obtain ⟨A2, c2, rfl⟩ := Kd.V_slice h2
  refine (pascalineref11_Import.calls 2000000 P AL cL L lv P AM cM Ms a P A2 c2 l _ _ _ _ _ w hL hM h2 (rf_import_f L (by omega) lv Ms hm a l hl 2000000 (by omega) (by omega))).mono ?_
  rintro e w' ⟨v0, v2, h, h0, h2, hb⟩
  obtain ⟨A, c, rfl⟩ := Kd.V_slice h0
  obtain ⟨A', c', rfl⟩ := Kd.V_slice h2
  exact ⟨A, _, c, A', _, c', h, Kd.V_mono h0 (fun k hk => by rcases hk with (h | h | h) | h; exact .inl h; exact .inl h; exact .inl h; exact .inr h), Kd.V_mono h2 (fun k hk => by rcases hk with (h | h | h) | h; exact .inl h; exact .inl h; exact .inl h; exact .inr h), hb⟩
end
/-- What is held beside the scopes, behind a call on them. -/
theorem V_scK {α : Type} {d : Kd α} {e b base : Nat} {w w' : World} {col col' : Nat → Nat} {v : Value} {xs : List α} (h : Kd.V d e w b (fun k => col k = 0) v xs) (hk : ScK base w w' col col') : Kd.V d e w' b (fun k => col' k = 0) v xs :=
  Kd.V_mono (Kd.V_step (Kd.V_bound h) (fun k h0 hlt => hk.keep k hlt h0.1)) (fun k h0 => by rw [hk.ext k h0.2]; exact h0.1)
theorem V_new {α : Type} {d : Kd α} {e b base g : Nat} {w w' : World} {col : Nat → Nat} {D M : List (List SO)} {v : Value} {xs : List α} (hI : IsS base w g col D M) (h : Kd.V d e w' b (fun k => col k = 0 ∨ w.heap.size ≤ k) v xs) : Kd.V d e w' b (fun k => col k = 0) v xs :=
  Kd.V_mono h (fun k hk => hk.elim id (fun hk => hI.new k hk))
theorem V_slc {α : Type} {d : Kd α} {e b : Nat} {w : World} {ok : Nat → Prop} {v : Value} {xs : List α} (h : Kd.V d e w b ok v xs) : ∃ A n c, v = .slice A n c := by
  obtain ⟨A, c, h⟩ := Kd.V_slice h
  exact ⟨A, _, c, h⟩
/-- What the document's values may lie in: none of the scopes' blocks, none of these boxes. -/
def FP (bx : List Nat) (col : Nat → Nat) (k : Nat) : Prop := col k = 0 ∧ k ∉ bx
/-- Both sides. -/
structure St (bx : List Nat) (N base : Nat) (w : World) (g : Nat) (col : Nat → Nat) (D M : List (List SO)) (L : List RO) (lv : Int) (Ms : List (List RO)) (vL vM : Value) : Prop where
  is : IsS base w g col D M
  vl : Kd.V k46 46 w 0 (FP bx col) vL L
  vm : Kd.V (Kd.slice 46 k46) 28 w 0 (FP bx col) vM Ms
  sim : Sim D M L lv Ms
  len : L.length ≤ N
  par : ∀ d ∈ D, ∀ x ∈ d, x.f7.length ≤ 1048576
  bxs : ∀ b ∈ bx, b < w.heap.size
theorem St.below {bx : List Nat} {N base g : Nat} {w w' : World} {col : Nat → Nat} {D M : List (List SO)} {L : List RO} {lv : Int} {Ms : List (List RO)} {vL vM : Value} (h : St bx N base w g col D M L lv Ms vL vM) (hb : Below w.heap.size w w') : St bx N base w' g col D M L lv Ms vL vM :=
  ⟨h.is.below hb, Kd.V_below h.vl hb, Kd.V_below h.vm hb, h.sim, h.len, h.par, fun b hb' => Nat.lt_of_lt_of_le (h.bxs b hb') hb.size⟩
def DoPost (bx : List Nat) (N base : Nat) (w : World) (g : Nat) (col : Nat → Nat) (e : Ending) (w' : World) : Prop :=
  ∃ (D M : List (List SO)) (L : List RO) (lv : Int) (Ms : List (List RO)) (A : Option Addr) (n c : Nat) (A' : Option Addr) (n' c' : Nat) (col' : Nat → Nat),
    e = .returned (.tuple #[.agg #[.slice A n c, .int .i64 lv, .slice A' n' c'], .bool true]) ∧ St bx N base w' g col' D M L lv Ms (.slice A n c) (.slice A' n' c') ∧ ScK base w w' col col'
/-! Each call at both: one step. -/
theorem nm_empty (a : ByteArray) : a.toList.isEmpty = true ↔ a.size = 0 := by
  rw [Go.ByteArray.toList_eq, List.isEmpty_iff_length_eq_zero, data_length]
theorem nm_full (a : ByteArray) : a.toList.isEmpty = false ↔ a.size ≠ 0 := by
  rw [← Bool.not_eq_true, Ne, ← nm_empty]
def ParOk (D : List (List SO)) : Prop := ∀ d ∈ D, ∀ x ∈ d, x.f7.length ≤ 1048576
theorem par_getD {D : List (List SO)} (h : ParOk D) (k : Nat) : ∀ x ∈ D.getD k [], x.f7.length ≤ 1048576 := fun x hx => by
  rw [List.getD_eq_getElem?_getD] at hx
  cases e : D[k]? with
  | none => rw [e] at hx; simp at hx
  | some d => rw [e] at hx; exact h d (List.mem_of_getElem? e) x hx
theorem par_set {D : List (List SO)} (h : ParOk D) (k : Nat) (d : List SO) (hd : ∀ x ∈ d, x.f7.length ≤ 1048576) : ParOk (D.set k d) := fun e he => by
  rcases List.mem_or_eq_of_mem_set he with he | rfl
  · exact h e he
  · exact hd
theorem par_put {D : List (List SO)} (h : ParOk D) (x : SO) (hx : x.f7.length ≤ 1048576) : ParOk (sc_put D x) := par_set h _ _ (fun y hy => by
  rcases List.mem_append.1 hy with hy | hy
  · exact par_getD h _ y hy
  · rw [List.mem_singleton.1 hy]; exact hx)
theorem par_chg {D : List (List SO)} (h : ParOk D) (n r : Nat) (x : SO) (hx : x.f7.length ≤ 1048576) : ParOk (sc_chg D n r x) := par_set h _ _ (fun y hy => by
  rcases List.mem_or_eq_of_mem_set hy with hy | rfl
  · exact par_getD h _ y hy
  · exact hx)
theorem sim_count {D M : List (List SO)} {L : List RO} {lv : Int} {Ms : List (List RO)} (h : Sim D M L lv Ms) : rf_count L lv = (D.getD (D.length - 1) []).length := by
  obtain ⟨hl, hlv⟩ := h.last
  have h2 := h.rows _ _ hl
  rw [hlv] at h2
  unfold rf_count
  rw [show (fun x : RO => decide (x.f3 = lv)) = lvB lv from rfl, h2, List.length_map]
/-- Declare at both: refused alike, or one more. -/
theorem declare_cases {D M : List (List SO)} {L : List RO} {lv : Int} {Ms : List (List RO)} (h : Sim D M L lv Ms) (hq : (D.getD (D.length - 1) []).length ≤ 4096) (x : SO) :
    (∃ code, ScRef D x.f0 code ∧ rf_declare L lv Ms (sc_r x) = (L, lv, Ms, code)) ∨
    ((x.f0.toList.isEmpty = false ∧ x.f0.size ≤ 32) ∧ sc_ix (D.getD (D.length - 1) []) x.f0 = -1 ∧ (D.getD (D.length - 1) []).length < 4096 ∧ rf_declare L lv Ms (sc_r x) = (L ++ [sc_r { x with f3 := (D.length : Int) - 1 }], lv, Ms, 0)) := by
  obtain ⟨hl, hlv⟩ := h.last
  unfold rf_declare
  by_cases h1 : x.f0.size = 0 ∨ 32 < x.f0.size
  · refine .inl ⟨140, .inl ⟨?_, rfl⟩, by rw [if_pos (show (sc_r x).f0.size = 0 ∨ 32 < (sc_r x).f0.size from h1)]⟩
    by_cases h0 : x.f0.size = 0
    · exact .inl ((nm_empty _).2 h0)
    · exact .inr ⟨(nm_full _).2 h0, by omega⟩
  · have hn : x.f0.toList.isEmpty = false ∧ x.f0.size ≤ 32 := ⟨(nm_full _).2 (by omega), by omega⟩
    rw [if_neg (show ¬ ((sc_r x).f0.size = 0 ∨ 32 < (sc_r x).f0.size) from h1)]
    cases e : nf (rf_is lv x.f0) L with
    | some r =>
      rw [← hlv] at e
      obtain ⟨i, h2, -, -⟩ := h.found hl x.f0 e
      refine .inl ⟨51, .inr (.inl ⟨hn, ?_, rfl⟩), ?_⟩
      · unfold sc_ix; rw [ix_some h2]; omega
      · rw [hlv] at e
        rw [if_pos (show 0 ≤ os_ix (rf_is lv (sc_r x).f0) L 0 by rw [show (sc_r x).f0 = x.f0 from rfl, ix_some e]; omega)]
    | none =>
      have h2 := ix_m1 e
      rw [← hlv] at e
      have h3 := ix_m1 ((h.ix hl x.f0).1 e)
      rw [if_neg (show ¬ 0 ≤ os_ix (rf_is lv (sc_r x).f0) L 0 by rw [show (sc_r x).f0 = x.f0 from rfl, h2]; decide), sim_count h]
      by_cases h4 : 4096 ≤ (D.getD (D.length - 1) []).length
      · exact .inl ⟨242, .inr (.inr ⟨hn, h3, by omega, rfl⟩), by rw [if_pos h4]⟩
      · refine .inr ⟨hn, h3, by omega, ?_⟩
        rw [if_neg h4]
        have := h.lv
        rw [show (D.length : Int) - 1 = lv by omega]
        rfl
/-- What a step of a call at both comes to: the number that both answer; the lists then. -/
structure StepTo (D' M' : List (List SO)) (L : List RO) (r : List RO × Int × List (List RO)) : Prop where
  sim : Sim D' M' r.1 r.2.1 r.2.2
  len : r.1.length ≤ L.length + 1
  par : ParOk D'
  mods : M'.length ≤ 64
theorem step_Open {D M : List (List SO)} {L : List RO} {lv : Int} {Ms : List (List RO)} (h : Sim D M L lv Ms) (hd : D.length ≤ 65) (hm : M.length ≤ 64) (hp : ParOk D) :
    ∃ D' code r, rf_open L lv Ms = (r.1, r.2.1, r.2.2, code) ∧ StepTo D' M L r ∧ ∀ (base : Nat) (w : World) (g : Nat) (col : Nat → Nat), IsS base w g col D M →
      Calls Try.prog 10 #[.pointer (some ⟨g, 0, none⟩)] w fun e w' => e = .returned (.int .i64 code) ∧ ScDone base w g col D' M w' := by
  have hlv := h.lv
  by_cases hn : D.length = 65
  · refine ⟨D, 240, (L, lv, Ms), by unfold rf_open; rw [if_pos (by omega)], ⟨h, by simp, hp, hm⟩, fun base w g col hI => (sc_Open_no hI hn).mono ?_⟩
    rintro e w' ⟨rfl, rfl⟩
    exact ⟨rfl, ScDone.of_below hI (Below.refl _ _)⟩
  · refine ⟨D ++ [[]], 0, (L, lv + 1, Ms), by unfold rf_open; rw [if_neg (by omega)], ⟨sim_open h, by simp, fun d hd => ?_, hm⟩, fun base w g col hI => sc_Open_yes hI (by omega)⟩
    rcases List.mem_append.1 hd with hd | hd
    · exact hp d hd
    · rw [List.mem_singleton.1 hd]; intro x hx; simp at hx
theorem step_Close {D M : List (List SO)} {L : List RO} {lv : Int} {Ms : List (List RO)} (h : Sim D M L lv Ms) (hm : M.length ≤ 64) (hp : ParOk D) :
    ∃ D' code r, rf_close L lv Ms = (r.1, r.2.1, r.2.2, code) ∧ StepTo D' M L r ∧ ∀ (base : Nat) (w : World) (g : Nat) (col : Nat → Nat), IsS base w g col D M →
      Calls Try.prog 12 #[.pointer (some ⟨g, 0, none⟩)] w fun e w' => e = .returned (.int .i64 code) ∧ ScDone base w g col D' M w' := by
  have hlv := h.lv
  have hpos := h.pos
  by_cases hn : D.length = 1
  · refine ⟨D, 111, (L, lv, Ms), by unfold rf_close; rw [if_pos (by omega)], ⟨h, by simp, hp, hm⟩, fun base w g col hI => (sc_Close_no hI hn).mono ?_⟩
    rintro e w' ⟨rfl, rfl⟩
    exact ⟨rfl, ScDone.of_below hI (Below.refl _ _)⟩
  · exact ⟨D.dropLast, 0, (L.filter (fun x => decide (x.f3 < lv)), lv - 1, Ms), by unfold rf_close; rw [if_neg (by omega)], ⟨sim_close h (by omega), Nat.le_trans (List.length_filter_le _ _) (by simp), fun d hd => hp d (List.dropLast_subset _ hd), hm⟩, fun base w g col hI => sc_Close_yes hI (by omega)⟩
theorem step_Declare {D M : List (List SO)} {L : List RO} {lv : Int} {Ms : List (List RO)} (h : Sim D M L lv Ms) (hq : (D.getD (D.length - 1) []).length ≤ 4096) (hm : M.length ≤ 64) (hp : ParOk D) (x : SO) (hx : x.f7.length ≤ 1048576) :
    ∃ D' code r, rf_declare L lv Ms (sc_r x) = (r.1, r.2.1, r.2.2, code) ∧ StepTo D' M L r ∧ ∀ (base : Nat) (w : World) (g : Nat) (col : Nat → Nat) (A : Option Addr) (m c : Nat), IsS base w g col D M → Kd.C k69 w A x.f7.length x.f7 → x.f7.length = m → m ≤ c →
      Calls Try.prog 11 #[.pointer (some ⟨g, 0, none⟩), .agg #[.string x.f0, .int .i64 x.f1, .int .i64 x.f2, .int .i64 x.f3, .int .i32 x.f4, .int .i64 x.f5, .bool x.f6, .slice A m c]] w fun e w' => e = .returned (.int .i64 code) ∧ ScDone base w g col D' M w' := by
  rcases declare_cases h hq x with ⟨code, hr, e⟩ | ⟨hn, hi, hl, e⟩
  · exact ⟨D, code, (L, lv, Ms), e, ⟨h, by simp, hp, hm⟩, fun base w g col A m c hI hC hm' hc => sc_Declare_no hI x.f0 x.f1 x.f2 x.f3 x.f4 x.f5 x.f6 A m c code hr⟩
  · refine ⟨sc_put D { x with f3 := (D.length : Int) - 1 }, 0, (L ++ [sc_r { x with f3 := (D.length : Int) - 1 }], lv, Ms), e, ⟨sim_put h _ rfl, by simp, par_put hp _ hx, hm⟩, fun base w g col A m c hI hC hm' hc => ?_⟩
    exact sc_Declare_yes hI x.f0 x.f1 x.f2 x.f3 x.f4 x.f5 x.f6 A m c x.f7 hm' hC ⟨hc, by omega⟩ hn hi hl
theorem step_Change {D M : List (List SO)} {L : List RO} {lv : Int} {Ms : List (List RO)} (h : Sim D M L lv Ms) (hm : M.length ≤ 64) (hp : ParOk D) (l : Int) (x : SO) (hx : x.f7.length ≤ 1048576) :
    ∃ D' code r, rf_change L lv Ms l (sc_r x) = (r.1, r.2.1, r.2.2, code) ∧ StepTo D' M L r ∧ ∀ (base : Nat) (w : World) (g : Nat) (col : Nat → Nat) (A : Option Addr) (m c : Nat), IsS base w g col D M → Kd.C k69 w A x.f7.length x.f7 → x.f7.length = m → m ≤ c →
      Calls Try.prog 33 #[.pointer (some ⟨g, 0, none⟩), .int .i64 l, .agg #[.string x.f0, .int .i64 x.f1, .int .i64 x.f2, .int .i64 x.f3, .int .i32 x.f4, .int .i64 x.f5, .bool x.f6, .slice A m c]] w fun e w' => e = .returned (.int .i64 code) ∧ ScDone base w g col D' M w' := by
  have e0 : (sc_r x).f0 = x.f0 := rfl
  by_cases hr : l < 0 ∨ (D.length : Int) ≤ l
  · refine ⟨D, 110, (L, lv, Ms), ?_, ⟨h, by simp, hp, hm⟩, fun base w g col A m c hI hC hm' hc => sc_Change_out hI l x.f0 x.f1 x.f2 x.f3 x.f4 x.f5 x.f6 A m c hr⟩
    unfold rf_change
    rw [e0, if_pos (by rw [ix_m1 (h.out l hr x.f0)]; decide)]
  · obtain ⟨n, rfl⟩ : ∃ n : Nat, l = (n : Int) := ⟨l.toNat, by omega⟩
    have hn : n < D.length := by omega
    have hd : D[n]? = some (D.getD n []) := by rw [List.getD_eq_getElem?_getD, List.getElem?_eq_getElem hn]; rfl
    cases e : nf (rf_is (n : Int) x.f0) L with
    | none =>
      have h3 := ix_m1 ((h.ix hd x.f0).1 e)
      refine ⟨D, 110, (L, lv, Ms), ?_, ⟨h, by simp, hp, hm⟩, fun base w g col A m c hI hC hm' hc => sc_Change_none hI n hn x.f0 x.f1 x.f2 x.f3 x.f4 x.f5 x.f6 A m c (-1) h3 (by decide)⟩
      unfold rf_change
      rw [e0, if_pos (by rw [ix_m1 e]; decide)]
    | some r =>
      obtain ⟨i, hi, hs⟩ := sim_chg h n hn { x with f3 := (n : Int) } rfl x.f0 e
      refine ⟨sc_chg D n i { x with f3 := (n : Int) }, 0, (L.set r (sc_r { x with f3 := (n : Int) }), lv, Ms), ?_, ⟨hs, by simp, par_chg hp n i _ hx, hm⟩, fun base w g col A m c hI hC hm' hc => ?_⟩
      · unfold rf_change
        rw [e0, ix_some e, if_neg (by omega)]
        rfl
      · have h5 := sc_Change_yes hI n hn x.f0 x.f1 x.f2 x.f3 x.f4 x.f5 x.f6 A m c x.f7 hm' hC ⟨hc, by omega⟩ (i : Int) (ix_some hi) (by omega)
        rw [Int.toNat_natCast] at h5
        exact h5
theorem step_Import {D M : List (List SO)} {L : List RO} {lv : Int} {Ms : List (List RO)} (h : Sim D M L lv Ms) (hq : (D.getD (D.length - 1) []).length ≤ 4096) (hm : M.length ≤ 64) (hp : ParOk D) (a : ByteArray) (l : List S71) (hl : l.length ≤ 1048576) (hle : ∀ x ∈ l, x.f4.length ≤ 1048576) :
    ∃ D' M' num code r, rf_import L lv Ms a l = (r.1, r.2.1, r.2.2, num, code) ∧ StepTo D' M' L r ∧ ∀ (base : Nat) (w : World) (g : Nat) (col : Nat → Nat) (A : Option Addr) (m c : Nat), IsS base w g col D M → Kd.F k71 w (fun k => col k = 0) A l.length l → l.length = m →
      Calls Try.prog 35 #[.pointer (some ⟨g, 0, none⟩), .string a, .slice A m c] w fun e w' => e = .returned (.tuple #[.int .i64 num, .int .i64 code]) ∧ ScDone base w g col D' M' w' := by
  have hms : Ms.length = M.length := by rw [h.mods, List.length_map]
  unfold rf_import
  rw [hms]
  by_cases h64 : 64 ≤ M.length
  · rw [if_pos h64]
    refine ⟨D, M, 0, 243, (L, lv, Ms), rfl, ⟨h, by simp, hp, hm⟩, fun base w g col A m c hI hF hm' => ?_⟩
    subst hm'
    exact sc_Import_many hI a A c l (by omega)
  · rw [if_neg h64]
    rw [show rf_mod a ((M.length : Int) + 1) = sc_r (sc_mod a ((M.length : Int) + 1) 0) from rfl]
    rcases declare_cases h hq (sc_mod a ((M.length : Int) + 1) 0) with ⟨code, hr, e⟩ | ⟨hn, hi, hlt, e⟩
    · rw [e, if_neg hr.ne.2]
      refine ⟨D, M, 0, code, (L, lv, Ms), rfl, ⟨h, by simp, hp, hm⟩, fun base w g col A m c hI hF hm' => ?_⟩
      subst hm'
      exact sc_Import_no hI a A c l (by omega) code hr
    · rw [e, if_pos rfl]
      refine ⟨sc_put D (sc_mod a ((M.length : Int) + 1) ((D.length : Int) - 1)), M ++ [sc_imps ((M.length : Int) + 1) l], (M.length : Int) + 1, 0, (L ++ [sc_r (sc_mod a ((M.length : Int) + 1) ((D.length : Int) - 1))], lv, Ms ++ [l.map (rf_imp ((M.length : Int) + 1))]), rfl, ⟨sim_mod (sim_put h _ rfl) _ _, by simp, par_put hp _ (by simp [sc_mod]), by simp; omega⟩, fun base w g col A m c hI hF hm' => ?_⟩
      subst hm'
      exact sc_Import_yes hI a A c l hF hl (fun x hx => by have := hle x hx; omega) (by omega) hn hi hlt
theorem IsS.set0 {base : Nat} {w : World} {g : Nat} {col : Nat → Nat} {D M : List (List SO)} (h : IsS base w g col D M) (p : Addr) (hp : col p.block = 0) (v : Value) : IsS base (w.setCell p v) g col D M := by
  have key : ∀ k, col k ≠ 0 → (w.setCell p v).heap[k]? = w.heap[k]? := fun k hk => Below.heap_setCell w p v k (fun e => hk (by rw [e]; exact hp))
  obtain ⟨vo, vm, vs, h1, h2, h3, h4, h5, h6, h7, h8⟩ := h
  have hsz : (w.setCell p v).heap.size = w.heap.size := by simp [World.setCell]
  exact ⟨vo, vm, vs, (key g (by omega)).trans h1, h2, Kd.R_step h3 (fun k hk _ => key k (by omega)), h4, fun i x d hx hd => Kd.R_step (h5 i x d hx hd) (fun k hk _ => key k (by omega)), Kd.R_step h6 (fun k hk _ => key k (by omega)), fun k hk => by rw [hsz]; exact h7 k hk, h8⟩
theorem ScK.set {base : Nat} {w w' : World} {col col' : Nat → Nat} (h : ScK base w w' col col') {p : Addr} (hb : base ≤ w.heap.size) (hp : w.heap.size ≤ p.block) (v : Value) : ScK base w (w'.setCell p v) col col' :=
  ⟨h.below.setCell (Nat.le_trans hb hp) v, fun k hk h0 => (Below.heap_setCell w' p v k (by omega)).trans (h.keep k hk h0), h.ext⟩
theorem sc_put3 {w : World} {g : Nat} {t : TypeId} {x0 x1 x2 : Value} (h : w.heap[g]? = some (.cells #[x0, x1, x2] t (0, 0))) (y0 y1 y2 : Value) :
    (((w.setCell ⟨g, 0, none⟩ y0).setCell ⟨g, 1, none⟩ y1).setCell ⟨g, 2, none⟩ y2).heap[g]? = some (.cells #[y0, y1, y2] t (0, 0)) := by
  have h1 := blk_put (cs' := #[y0, x1, x2]) h 0 y0 rfl
  have h2 := blk_put (cs' := #[y0, y1, x2]) h1 1 y1 rfl
  exact blk_put (cs' := #[y0, y1, y2]) h2 2 y2 rfl
theorem sc_far3 {w : World} {g k : Nat} {o : Obj} (h : w.heap[k]? = some o) (hne : k ≠ g) (y0 y1 y2 : Value) : (((w.setCell ⟨g, 0, none⟩ y0).setCell ⟨g, 1, none⟩ y1).setCell ⟨g, 2, none⟩ y2).heap[k]? = some o :=
  (Below.heap_setCell _ ⟨g, 2, none⟩ y2 k hne).trans ((Below.heap_setCell _ ⟨g, 1, none⟩ y1 k hne).trans ((Below.heap_setCell _ ⟨g, 0, none⟩ y0 k hne).trans h))
theorem sc_put3b {w0 w : World} {g : Nat} (hb : Below w0.heap.size w0 w) (hg : w0.heap.size ≤ g) (y0 y1 y2 : Value) : Below w0.heap.size w0 (((w.setCell ⟨g, 0, none⟩ y0).setCell ⟨g, 1, none⟩ y1).setCell ⟨g, 2, none⟩ y2) := below_set (below_set (below_set hb hg) hg) hg
-- DO
theorem do_far {α : Type} {d : Kd α} {e b : Nat} {w : World} {P : Nat → Prop} {v : Value} {xs : List α} (h : Kd.V d e w b P v xs) {g : Nat} (hg : ∀ k, P k → k ≠ g) (y0 y1 y2 : Value) : Kd.V d e (((w.setCell ⟨g, 0, none⟩ y0).setCell ⟨g, 1, none⟩ y1).setCell ⟨g, 2, none⟩ y2) b P v xs :=
  Kd.V_far (p := ⟨g, 2, none⟩) (Kd.V_far (p := ⟨g, 1, none⟩) (Kd.V_far (p := ⟨g, 0, none⟩) h hg _) hg _) hg _
/-- The end of a call at both. -/
theorem do_end {bx : List Nat} {N base : Nat} {w wA wB : World} {g : Nat} {col cA : Nat → Nat} {D M D' M' : List (List SO)} {L : List RO} {lv : Int} {Ms : List (List RO)} {vL vM : Value} (h : St bx N base w g col D M L lv Ms vL vM) (hbs : base ≤ w.heap.size)
    (hIA : IsS base wA g cA D' M') (hKA : ScK base w wA col cA) (hBB : Below wA.heap.size wA wB) {b6 b10 : Nat} (g6 : w.heap.size ≤ b6) (g10 : w.heap.size ≤ b10) (l6 : b6 < wA.heap.size) (l10 : b10 < wA.heap.size) (c6 : cA b6 = 0) (c10 : cA b10 = 0)
    {r : List RO × Int × List (List RO)} {A A' : Option Addr} {n c n' c' : Nat} (hL : Kd.V k46 46 wB 0 (fun k => (FP bx col k ∧ k < w.heap.size) ∨ wA.heap.size ≤ k) (.slice A n c) r.1) (hM : Kd.V (Kd.slice 46 k46) 28 wB 0 (fun k => (FP bx col k ∧ k < w.heap.size) ∨ wA.heap.size ≤ k) (.slice A' n' c') r.2.2)
    (hs : StepTo D' M' L r) (y0 y1 y2 y3 y4 y5 : Value) :
    DoPost bx (N + 1) base w g col (.returned (.tuple #[.agg #[.slice A n c, .int .i64 r.2.1, .slice A' n' c'], .bool true])) ((((((wB.setCell ⟨b10, 0, none⟩ y0).setCell ⟨b10, 1, none⟩ y1).setCell ⟨b10, 2, none⟩ y2).setCell ⟨b6, 0, none⟩ y3).setCell ⟨b6, 1, none⟩ y4).setCell ⟨b6, 2, none⟩ y5) := by
  have f6 : ∀ k, ((FP bx col k ∧ k < w.heap.size) ∨ wA.heap.size ≤ k) → k ≠ b6 := fun k hk e => by rcases hk with hk | hk <;> omega
  have f10 : ∀ k, ((FP bx col k ∧ k < w.heap.size) ∨ wA.heap.size ≤ k) → k ≠ b10 := fun k hk e => by rcases hk with hk | hk <;> omega
  have hp : ∀ k, ((FP bx col k ∧ k < w.heap.size) ∨ wA.heap.size ≤ k) → FP bx cA k := fun k hk => by
    rcases hk with hk | hk
    · exact ⟨by rw [hKA.ext k hk.2]; exact hk.1.1, hk.1.2⟩
    · exact ⟨hIA.new k hk, fun hm => by have h1 := h.bxs k hm; have h2 := hKA.below.size; omega⟩
  have hI := (((((((hIA.below hBB).set0 ⟨b10, 0, none⟩ c10 y0).set0 ⟨b10, 1, none⟩ c10 y1).set0 ⟨b10, 2, none⟩ c10 y2).set0 ⟨b6, 0, none⟩ c6 y3).set0 ⟨b6, 1, none⟩ c6 y4).set0 ⟨b6, 2, none⟩ c6 y5)
  have hK := ((((((hKA.trans (ScK.of_below hBB (by have := hIA.base; omega))).set (p := ⟨b10, 0, none⟩) hbs g10 y0).set (p := ⟨b10, 1, none⟩) hbs g10 y1).set (p := ⟨b10, 2, none⟩) hbs g10 y2).set (p := ⟨b6, 0, none⟩) hbs g6 y3).set (p := ⟨b6, 1, none⟩) hbs g6 y4).set (p := ⟨b6, 2, none⟩) hbs g6 y5
  exact ⟨D', M', r.1, r.2.1, r.2.2, A, n, c, A', n', c', cA, rfl, ⟨hI, Kd.V_mono (do_far (do_far hL f10 _ _ _) f6 _ _ _) hp, Kd.V_mono (do_far (do_far hM f10 _ _ _) f6 _ _ _) hp, hs.sim, Nat.le_trans hs.len (by have := h.len; omega), hs.par, fun b hb => by have h1 := h.bxs b hb; have h2 := hK.below.size; omega⟩, hK⟩
set_option maxRecDepth 100000 in
set_option maxHeartbeats 4000000 in
theorem sc_do_0 {bx : List Nat} {N base : Nat} {w : World} {g : Nat} {col : Nat → Nat} {D M : List (List SO)} {L : List RO} {lv : Int} {Ms : List (List RO)} {vL vM : Value} (h : St bx N base w g col D M L lv Ms vL vM) (hN : N ≤ 999) (kd n : Int) (x : SO) (v7 v2 : Value) (l : List S71)
    (h7 : Kd.V k69 69 w 0 (FP bx col) v7 x.f7) (h2 : Kd.V k71 71 w 0 (FP bx col) v2 l) (hx7 : x.f7.length ≤ 1048576) (hl : l.length ≤ 1048576) (hle : ∀ e ∈ l, e.f4.length ≤ 1048576) (hk : kd = 0) :
    Calls Try.prog 21 #[.pointer (some ⟨g, 0, none⟩), .agg #[vL, .int .i64 lv, vM], .agg #[.int .i64 kd, .int .i64 n, .string x.f0, .int .i64 x.f1, .int .i64 x.f2, .int .i64 x.f3, .int .i32 x.f4, .int .i64 x.f5, .bool x.f6, v7, v2]] w (DoPost bx (N + 1) base w g col) := by
  obtain ⟨AL, nL, cL, rfl⟩ := V_slc h.vl
  obtain ⟨AM, nM, cM, rfl⟩ := V_slc h.vm
  obtain ⟨A7, n7, c7, rfl⟩ := V_slc h7
  obtain ⟨A2, n2, c2, rfl⟩ := V_slc h2
  obtain ⟨x0, x1, x2, x3, x4, x5, x6, x7⟩ := x
  dsimp only at h7 hx7 ⊢
  have HS := Aside0.mk h
  have HVL := Aside0.mk (Kd.V_bound h.vl); have HVM := Aside0.mk (Kd.V_bound h.vm); have HV7 := Aside0.mk (Kd.V_bound h7); have HV2 := Aside0.mk (Kd.V_bound h2)
  have HNN := Aside0.mk hN; have HX7 := Aside0.mk hx7; have HLL := Aside0.mk hl; have HLE := Aside0.mk hle
  have hsl := h.is.len
  have HSL := Aside0.mk hsl
  have hlv := h.sim.lv
  have HLV := Aside0.mk (show 0 ≤ lv ∧ lv ≤ 64 by omega)
  have HDQ := Aside0.mk (show (D.getD (D.length - 1) []).length ≤ 4096 by
    rw [List.getD_eq_getElem?_getD, List.getElem?_eq_getElem (by omega)]
    exact hsl.2.2.2 _ (List.getElem_mem _))
  have HBS := Aside0.mk (show base ≤ w.heap.size by have := h.is.base; omega)
  have HB := Aside0.mk (Below.refl w.heap.size w)
  clear h h7 h2 hx7 hl hle hN hsl hlv
  obtain ⟨D', code, r, hcr, hst, hstep⟩ := step_Open HS.out.sim HSL.out.2.1 HSL.out.2.2.1 HS.out.par
  obtain ⟨r1, r2, r3⟩ := r
  have HCR := Aside0.mk (show rf_open L lv Ms = (r1, r2, r3, code) from hcr); have HST := Aside0.mk hst; have HSTEP := Aside0.mk hstep
  clear hcr hst hstep
  subst hk
  go_enter Try.func21, Try.ntmps21
  go_wp2_with (first
    | ((with_reducible refine gate_dst (N := 4) rfl ?_); refine box_event ?hg (N := 4) ?hd (cs := #[.slice AL nL cL, .int .i64 lv, .slice AM nM cM]) (t := 31) ?hr ?_; (case hd => rfl); (case hg => rfl); (case hr => first | (go_simp; done) | (go_simp; rfl)); intro b4 hgx w4 hbox hb; have HB4 := Aside0.mk (below_step HB.out hb); have HX4 := Aside0.mk hbox; have HG4 := Aside0.mk (show w.heap.size ≤ b4 by rw [hgx]; exact HB.out.size); skip; clear hgx hbox hb)
    | ((with_reducible refine gate_dst (N := 5) rfl ?_); refine box_event ?hg (N := 5) ?hd (cs := #[.int .i64 0, .int .i64 n, .string x0, .int .i64 x1, .int .i64 x2, .int .i64 x3, .int .i32 x4, .int .i64 x5, .bool x6, .slice A7 n7 c7, .slice A2 n2 c2]) (t := 57) ?hr ?_; (case hd => rfl); (case hg => rfl); (case hr => first | (go_simp; done) | (go_simp; rfl)); intro b5 hgx w5 hbox hb; have HB5 := Aside0.mk (below_step HB4.out hb); have HX5 := Aside0.mk hbox; have HG5 := Aside0.mk (show w.heap.size ≤ b5 by rw [hgx]; exact HB4.out.size); have HX4b := Aside0.mk (blk_below HX4.out hb); have N54 := Aside0.mk (show b4 ≠ b5 from fun e => by have := blk_lt HX4.out; omega); clear hgx hbox hb)
    | ((with_reducible refine gate_dst (N := 6) rfl ?_); refine box_event ?hg (N := 6) ?hd (cs := #[.slice none 0 0, .int .i64 0, .slice none 0 0]) (t := 31) ?hr ?_; (case hd => rfl); (case hg => rfl); (case hr => first | (go_simp; done) | (go_simp; rfl)); intro b6 hgx w6 hbox hb; have HB6 := Aside0.mk (below_step HB5.out hb); have HX6 := Aside0.mk hbox; have HG6 := Aside0.mk (show w.heap.size ≤ b6 by rw [hgx]; exact HB5.out.size); have HX4c := Aside0.mk (blk_below HX4b.out hb); have HX5c := Aside0.mk (blk_below HX5.out hb); have hq4 := HX4c.out; have e0 : w6.cell? ⟨b4, 0, none⟩ = some (.slice AL nL cL) := blk_cell hq4 0; have e1 : w6.cell? ⟨b4, 1, none⟩ = some (.int .i64 lv) := blk_cell hq4 1; have e2 : w6.cell? ⟨b4, 2, none⟩ = some (.slice AM nM cM) := blk_cell hq4 2; clear hgx hbox hb)
    | ((with_reducible refine gate_dst (N := 10) rfl ?_); refine box_event ?hg (N := 10) ?hd (cs := #[.slice none 0 0, .int .i64 0, .slice none 0 0]) (t := 31) ?hr ?_; (case hd => rfl); (case hg => rfl); (case hr => first | (go_simp; done) | (go_simp; rfl)); intro b10 hgx w10 hbox hb; have HB10 := Aside0.mk (below_step HB6.out hb); have HX10 := Aside0.mk hbox; have HG10 := Aside0.mk (show w.heap.size ≤ b10 by rw [hgx]; exact HB6.out.size); have HX4d := Aside0.mk (blk_below HX4c.out hb); have HX5d := Aside0.mk (blk_below HX5c.out hb); have HX6d := Aside0.mk (blk_below HX6.out hb); have n4 : b4 ≠ b10 := (fun e => by have := blk_lt HX4c.out; omega); have n5 : b5 ≠ b10 := (fun e => by have := blk_lt HX5c.out; omega); have n6 : b6 ≠ b10 := (fun e => by have := blk_lt HX6.out; omega); have N4 := Aside0.mk n4; have N5 := Aside0.mk n5; have N6 := Aside0.mk n6; have hq5 := HX5d.out; have k0 : w10.cell? ⟨b5, 0, none⟩ = some (.int .i64 0) := blk_cell hq5 0; have k1 : w10.cell? ⟨b5, 1, none⟩ = some (.int .i64 n) := blk_cell hq5 1; have k2 : w10.cell? ⟨b5, 2, none⟩ = some (.string x0) := blk_cell hq5 2; have k3 : w10.cell? ⟨b5, 3, none⟩ = some (.int .i64 x1) := blk_cell hq5 3; have k4 : w10.cell? ⟨b5, 4, none⟩ = some (.int .i64 x2) := blk_cell hq5 4; have k5 : w10.cell? ⟨b5, 5, none⟩ = some (.int .i64 x3) := blk_cell hq5 5; have k6 : w10.cell? ⟨b5, 6, none⟩ = some (.int .i32 x4) := blk_cell hq5 6; have k7 : w10.cell? ⟨b5, 7, none⟩ = some (.int .i64 x5) := blk_cell hq5 7; have k8 : w10.cell? ⟨b5, 8, none⟩ = some (.bool x6) := blk_cell hq5 8; have k9 : w10.cell? ⟨b5, 9, none⟩ = some (.slice A7 n7 c7) := blk_cell hq5 9; have k10 : w10.cell? ⟨b5, 10, none⟩ = some (.slice A2 n2 c2) := blk_cell hq5 10; have hq4d := HX4d.out; have d0 : w10.cell? ⟨b4, 0, none⟩ = some (.slice AL nL cL) := blk_cell hq4d 0; have d1 : w10.cell? ⟨b4, 1, none⟩ = some (.int .i64 lv) := blk_cell hq4d 1; have d2 : w10.cell? ⟨b4, 2, none⟩ = some (.slice AM nM cM) := blk_cell hq4d 2; have z0 : w10.cell? ⟨b10, 0, none⟩ = some (.slice none 0 0) := blk_cell hbox 0; have z1 : w10.cell? ⟨b10, 1, none⟩ = some (.int .i64 0) := blk_cell hbox 1; have z2 : w10.cell? ⟨b10, 2, none⟩ = some (.slice none 0 0) := blk_cell hbox 2; have y0 := blk_frozen hbox 0; have y1 := blk_frozen hbox 1; have y2 := blk_frozen hbox 2; clear hq5 hq4d; clear hgx hbox hb))
  obtain ⟨W1, hW1⟩ : ∃ W1, (((w10.setCell ⟨b10, 0, none⟩ (.slice AL nL cL)).setCell ⟨b10, 1, none⟩ (.int .i64 lv)).setCell ⟨b10, 2, none⟩ (.slice AM nM cM)) = W1 := ⟨_, rfl⟩
  have HB1 := Aside0.mk (show Below w.heap.size w W1 by rw [← hW1]; exact sc_put3b HB10.out HG10.out _ _ _)
  have hx4 : W1.heap[b4]? = some (.cells #[.slice AL nL cL, .int .i64 lv, .slice AM nM cM] 31 (0, 0)) := by rw [← hW1]; exact sc_far3 HX4d.out N4.out _ _ _
  have hx5 : W1.heap[b5]? = some (.cells #[.int .i64 0, .int .i64 n, .string x0, .int .i64 x1, .int .i64 x2, .int .i64 x3, .int .i32 x4, .int .i64 x5, .bool x6, .slice A7 n7 c7, .slice A2 n2 c2] 57 (0, 0)) := by rw [← hW1]; exact sc_far3 HX5d.out N5.out _ _ _
  have hx6 : W1.heap[b6]? = some (.cells #[.slice none 0 0, .int .i64 0, .slice none 0 0] 31 (0, 0)) := by rw [← hW1]; exact sc_far3 HX6d.out N6.out _ _ _
  have hx10 : W1.heap[b10]? = some (.cells #[.slice AL nL cL, .int .i64 lv, .slice AM nM cM] 31 (0, 0)) := by rw [← hW1]; exact sc_put3 HX10.out _ _ _
  rw [hW1]
  clear hW1 HX4 HX4b HX4c HX4d HX5 HX5c HX5d HX6 HX6d HX10 N4 N5 k0 k1 k2 k3 k4 k5 k6 k7 k8 k9 k10 e0 e1 e2 d0 d1 d2 z0 z1 z2 y0 y1 y2 n4 n5 n6 HB4 HB5 HB6 HB10 hq4
  have HX4 := Aside0.mk hx4; have HX5 := Aside0.mk hx5; have HX6 := Aside0.mk hx6; have HX10 := Aside0.mk hx10
  have HI1 := Aside0.mk (HS.out.is.below HB1.out)
  have HZ := Aside0.mk (show col b4 = 0 ∧ col b5 = 0 ∧ col b6 = 0 ∧ col b10 = 0 from ⟨HS.out.is.new _ HG4.out, HS.out.is.new _ HG5.out, HS.out.is.new _ HG6.out, HS.out.is.new _ HG10.out⟩)
  have o0 : W1.cell? ⟨b5, 0, none⟩ = some (.int .i64 0) := blk_cell hx5 0; have o1 : W1.cell? ⟨b5, 1, none⟩ = some (.int .i64 n) := blk_cell hx5 1; have o2 : W1.cell? ⟨b5, 2, none⟩ = some (.string x0) := blk_cell hx5 2; have o3 : W1.cell? ⟨b5, 3, none⟩ = some (.int .i64 x1) := blk_cell hx5 3; have o4 : W1.cell? ⟨b5, 4, none⟩ = some (.int .i64 x2) := blk_cell hx5 4; have o5 : W1.cell? ⟨b5, 5, none⟩ = some (.int .i64 x3) := blk_cell hx5 5; have o6 : W1.cell? ⟨b5, 6, none⟩ = some (.int .i32 x4) := blk_cell hx5 6; have o7 : W1.cell? ⟨b5, 7, none⟩ = some (.int .i64 x5) := blk_cell hx5 7; have o8 : W1.cell? ⟨b5, 8, none⟩ = some (.bool x6) := blk_cell hx5 8; have o9 : W1.cell? ⟨b5, 9, none⟩ = some (.slice A7 n7 c7) := blk_cell hx5 9; have o10 : W1.cell? ⟨b5, 10, none⟩ = some (.slice A2 n2 c2) := blk_cell hx5 10
  clear hx4 hx5 hx6 hx10
  go_wp2_with (go_at_call 10; go_loud (refine (HSTEP.out base _ g col HI1.out).mono ?_; rintro e wA ⟨rfl, cA, hI, hKx⟩; have HCZ := Aside0.mk (show ∀ b, b < W1.heap.size → col b = 0 → cA b = 0 from fun b hb h0 => by rw [hKx.ext b hb]; exact h0); have hK := hKx; have HIA := Aside0.mk hI; have HKA := Aside0.mk ((ScK.of_below HB1.out HBS.out).trans hK); have HA4 := Aside0.mk ((hK.keep b4 (blk_lt HX4.out) HZ.out.1).trans HX4.out); have HA5 := Aside0.mk ((hK.keep b5 (blk_lt HX5.out) HZ.out.2.1).trans HX5.out); have HA6 := Aside0.mk ((hK.keep b6 (blk_lt HX6.out) HZ.out.2.2.1).trans HX6.out); have HA10 := Aside0.mk ((hK.keep b10 (blk_lt HX10.out) HZ.out.2.2.2).trans HX10.out); have HSZ := Aside0.mk (show W1.heap.size ≤ wA.heap.size from hK.below.size); have HL14 := Aside0.mk (show b4 < W1.heap.size ∧ b5 < W1.heap.size ∧ b6 < W1.heap.size ∧ b10 < W1.heap.size from ⟨blk_lt HX4.out, blk_lt HX5.out, blk_lt HX6.out, blk_lt HX10.out⟩); have HVLA := Aside0.mk (Kd.V_step (Kd.V_below HVL.out HB1.out) (fun k h0 hlt => hK.keep k (Nat.lt_of_lt_of_le h0.2 HB1.out.size) h0.1.1)); have HVMA := Aside0.mk (Kd.V_step (Kd.V_below HVM.out HB1.out) (fun k h0 hlt => hK.keep k (Nat.lt_of_lt_of_le h0.2 HB1.out.size) h0.1.1)); have HV7A := Aside0.mk (Kd.V_step (Kd.V_below HV7.out HB1.out) (fun k h0 hlt => hK.keep k (Nat.lt_of_lt_of_le h0.2 HB1.out.size) h0.1.1)); have HV2A := Aside0.mk (Kd.V_step (Kd.V_below HV2.out HB1.out) (fun k h0 hlt => hK.keep k (Nat.lt_of_lt_of_le h0.2 HB1.out.size) h0.1.1)); have e0 : wA.cell? ⟨b4, 0, none⟩ = some (.slice AL nL cL) := blk_cell HA4.out 0; have e1 : wA.cell? ⟨b4, 1, none⟩ = some (.int .i64 lv) := blk_cell HA4.out 1; have e2 : wA.cell? ⟨b4, 2, none⟩ = some (.slice AM nM cM) := blk_cell HA4.out 2; have a0 : wA.cell? ⟨b5, 0, none⟩ = some (.int .i64 0) := blk_cell HA5.out 0; have a1 : wA.cell? ⟨b5, 1, none⟩ = some (.int .i64 n) := blk_cell HA5.out 1; have a2 : wA.cell? ⟨b5, 2, none⟩ = some (.string x0) := blk_cell HA5.out 2; have a3 : wA.cell? ⟨b5, 3, none⟩ = some (.int .i64 x1) := blk_cell HA5.out 3; have a4 : wA.cell? ⟨b5, 4, none⟩ = some (.int .i64 x2) := blk_cell HA5.out 4; have a5 : wA.cell? ⟨b5, 5, none⟩ = some (.int .i64 x3) := blk_cell HA5.out 5; have a6 : wA.cell? ⟨b5, 6, none⟩ = some (.int .i32 x4) := blk_cell HA5.out 6; have a7 : wA.cell? ⟨b5, 7, none⟩ = some (.int .i64 x5) := blk_cell HA5.out 7; have a8 : wA.cell? ⟨b5, 8, none⟩ = some (.bool x6) := blk_cell HA5.out 8; have a9 : wA.cell? ⟨b5, 9, none⟩ = some (.slice A7 n7 c7) := blk_cell HA5.out 9; have a10 : wA.cell? ⟨b5, 10, none⟩ = some (.slice A2 n2 c2) := blk_cell HA5.out 10; clear hI hK o0 o1 o2 o3 o4 o5 o6 o7 o8 o9 o10; clear hKx))
  go_wp2_with (go_at_call 29; (refine (rf_Open_calls HVLA.out HVMA.out HLV.out).mono ?_; rw [HCR.out]; rintro e wB ⟨AR, nR, cR, AQ, nQ, cQ, rfl, hvL, hvM, hb⟩; have HRL := Aside0.mk hvL; have HRM := Aside0.mk hvM; have HBB := Aside0.mk hb; have HY6 := Aside0.mk (blk_below HA6.out hb); have HY10 := Aside0.mk (blk_below HA10.out hb); have z0 : wB.cell? ⟨b10, 0, none⟩ = some (.slice AL nL cL) := blk_cell HY10.out 0; have z1 : wB.cell? ⟨b10, 1, none⟩ = some (.int .i64 lv) := blk_cell HY10.out 1; have z2 : wB.cell? ⟨b10, 2, none⟩ = some (.slice AM nM cM) := blk_cell HY10.out 2; have y0 := blk_frozen HY10.out 0; have y1 := blk_frozen HY10.out 1; have y2 := blk_frozen HY10.out 2; have n6 : b6 ≠ b10 := N6.out; have n6' : b10 ≠ b6 := Ne.symm N6.out; have u0 : wB.cell? ⟨b6, 0, none⟩ = some (.slice none 0 0) := blk_cell HY6.out 0; have u1 : wB.cell? ⟨b6, 1, none⟩ = some (.int .i64 0) := blk_cell HY6.out 1; have u2 : wB.cell? ⟨b6, 2, none⟩ = some (.slice none 0 0) := blk_cell HY6.out 2; have s0 := blk_frozen HY6.out 0; have s1 := blk_frozen HY6.out 1; have s2 := blk_frozen HY6.out 2; clear hvL hvM hb e0 e1 e2 a0 a1 a2 a3 a4 a5 a6 a7 a8 a9 a10))
  refine bodyPost_ret (results_list (rs := [.cell 6 31, .tmp 7]) rfl (by simp) (.cell b6 31 #[.slice AR nR cR, .int .i64 r2, .slice AQ nQ cQ] (0, 0) _ rfl (sc_put3 (sc_far3 HY6.out N6.out _ _ _) _ _ _) Try.underlying31 rfl (by kernel_rfl) (.tmp .nil))) rfl ?_
  exact do_end HS.out HBS.out HIA.out HKA.out HBB.out HG6.out HG10.out (Nat.lt_of_lt_of_le HL14.out.2.2.1 HSZ.out) (Nat.lt_of_lt_of_le HL14.out.2.2.2 HSZ.out) (HCZ.out b6 HL14.out.2.2.1 HZ.out.2.2.1) (HCZ.out b10 HL14.out.2.2.2 HZ.out.2.2.2) HRL.out HRM.out HST.out _ _ _ _ _ _
set_option maxRecDepth 100000 in
set_option maxHeartbeats 4000000 in
theorem sc_do_1 {bx : List Nat} {N base : Nat} {w : World} {g : Nat} {col : Nat → Nat} {D M : List (List SO)} {L : List RO} {lv : Int} {Ms : List (List RO)} {vL vM : Value} (h : St bx N base w g col D M L lv Ms vL vM) (hN : N ≤ 999) (kd n : Int) (x : SO) (v7 v2 : Value) (l : List S71)
    (h7 : Kd.V k69 69 w 0 (FP bx col) v7 x.f7) (h2 : Kd.V k71 71 w 0 (FP bx col) v2 l) (hx7 : x.f7.length ≤ 1048576) (hl : l.length ≤ 1048576) (hle : ∀ e ∈ l, e.f4.length ≤ 1048576) (hk : kd = 1) :
    Calls Try.prog 21 #[.pointer (some ⟨g, 0, none⟩), .agg #[vL, .int .i64 lv, vM], .agg #[.int .i64 kd, .int .i64 n, .string x.f0, .int .i64 x.f1, .int .i64 x.f2, .int .i64 x.f3, .int .i32 x.f4, .int .i64 x.f5, .bool x.f6, v7, v2]] w (DoPost bx (N + 1) base w g col) := by
  obtain ⟨AL, nL, cL, rfl⟩ := V_slc h.vl
  obtain ⟨AM, nM, cM, rfl⟩ := V_slc h.vm
  obtain ⟨A7, n7, c7, rfl⟩ := V_slc h7
  obtain ⟨A2, n2, c2, rfl⟩ := V_slc h2
  obtain ⟨x0, x1, x2, x3, x4, x5, x6, x7⟩ := x
  dsimp only at h7 hx7 ⊢
  have HS := Aside0.mk h
  have HVL := Aside0.mk (Kd.V_bound h.vl); have HVM := Aside0.mk (Kd.V_bound h.vm); have HV7 := Aside0.mk (Kd.V_bound h7); have HV2 := Aside0.mk (Kd.V_bound h2)
  have HNN := Aside0.mk hN; have HX7 := Aside0.mk hx7; have HLL := Aside0.mk hl; have HLE := Aside0.mk hle
  have hsl := h.is.len
  have HSL := Aside0.mk hsl
  have hlv := h.sim.lv
  have HLV := Aside0.mk (show 0 ≤ lv ∧ lv ≤ 64 by omega)
  have HDQ := Aside0.mk (show (D.getD (D.length - 1) []).length ≤ 4096 by
    rw [List.getD_eq_getElem?_getD, List.getElem?_eq_getElem (by omega)]
    exact hsl.2.2.2 _ (List.getElem_mem _))
  have HBS := Aside0.mk (show base ≤ w.heap.size by have := h.is.base; omega)
  have HB := Aside0.mk (Below.refl w.heap.size w)
  clear h h7 h2 hx7 hl hle hN hsl hlv
  obtain ⟨D', code, r, hcr, hst, hstep⟩ := step_Close HS.out.sim HSL.out.2.2.1 HS.out.par
  obtain ⟨r1, r2, r3⟩ := r
  have HCR := Aside0.mk (show rf_close L lv Ms = (r1, r2, r3, code) from hcr); have HST := Aside0.mk hst; have HSTEP := Aside0.mk hstep
  clear hcr hst hstep
  subst hk
  go_enter Try.func21, Try.ntmps21
  go_wp2_with (first
    | ((with_reducible refine gate_dst (N := 4) rfl ?_); refine box_event ?hg (N := 4) ?hd (cs := #[.slice AL nL cL, .int .i64 lv, .slice AM nM cM]) (t := 31) ?hr ?_; (case hd => rfl); (case hg => rfl); (case hr => first | (go_simp; done) | (go_simp; rfl)); intro b4 hgx w4 hbox hb; have HB4 := Aside0.mk (below_step HB.out hb); have HX4 := Aside0.mk hbox; have HG4 := Aside0.mk (show w.heap.size ≤ b4 by rw [hgx]; exact HB.out.size); skip; clear hgx hbox hb)
    | ((with_reducible refine gate_dst (N := 5) rfl ?_); refine box_event ?hg (N := 5) ?hd (cs := #[.int .i64 1, .int .i64 n, .string x0, .int .i64 x1, .int .i64 x2, .int .i64 x3, .int .i32 x4, .int .i64 x5, .bool x6, .slice A7 n7 c7, .slice A2 n2 c2]) (t := 57) ?hr ?_; (case hd => rfl); (case hg => rfl); (case hr => first | (go_simp; done) | (go_simp; rfl)); intro b5 hgx w5 hbox hb; have HB5 := Aside0.mk (below_step HB4.out hb); have HX5 := Aside0.mk hbox; have HG5 := Aside0.mk (show w.heap.size ≤ b5 by rw [hgx]; exact HB4.out.size); have HX4b := Aside0.mk (blk_below HX4.out hb); have N54 := Aside0.mk (show b4 ≠ b5 from fun e => by have := blk_lt HX4.out; omega); clear hgx hbox hb)
    | ((with_reducible refine gate_dst (N := 6) rfl ?_); refine box_event ?hg (N := 6) ?hd (cs := #[.slice none 0 0, .int .i64 0, .slice none 0 0]) (t := 31) ?hr ?_; (case hd => rfl); (case hg => rfl); (case hr => first | (go_simp; done) | (go_simp; rfl)); intro b6 hgx w6 hbox hb; have HB6 := Aside0.mk (below_step HB5.out hb); have HX6 := Aside0.mk hbox; have HG6 := Aside0.mk (show w.heap.size ≤ b6 by rw [hgx]; exact HB5.out.size); have HX4c := Aside0.mk (blk_below HX4b.out hb); have HX5c := Aside0.mk (blk_below HX5.out hb); have hq4 := HX4c.out; have e0 : w6.cell? ⟨b4, 0, none⟩ = some (.slice AL nL cL) := blk_cell hq4 0; have e1 : w6.cell? ⟨b4, 1, none⟩ = some (.int .i64 lv) := blk_cell hq4 1; have e2 : w6.cell? ⟨b4, 2, none⟩ = some (.slice AM nM cM) := blk_cell hq4 2; clear hgx hbox hb)
    | ((with_reducible refine gate_dst (N := 10) rfl ?_); refine box_event ?hg (N := 10) ?hd (cs := #[.slice none 0 0, .int .i64 0, .slice none 0 0]) (t := 31) ?hr ?_; (case hd => rfl); (case hg => rfl); (case hr => first | (go_simp; done) | (go_simp; rfl)); intro b10 hgx w10 hbox hb; have HB10 := Aside0.mk (below_step HB6.out hb); have HX10 := Aside0.mk hbox; have HG10 := Aside0.mk (show w.heap.size ≤ b10 by rw [hgx]; exact HB6.out.size); have HX4d := Aside0.mk (blk_below HX4c.out hb); have HX5d := Aside0.mk (blk_below HX5c.out hb); have HX6d := Aside0.mk (blk_below HX6.out hb); have n4 : b4 ≠ b10 := (fun e => by have := blk_lt HX4c.out; omega); have n5 : b5 ≠ b10 := (fun e => by have := blk_lt HX5c.out; omega); have n6 : b6 ≠ b10 := (fun e => by have := blk_lt HX6.out; omega); have N4 := Aside0.mk n4; have N5 := Aside0.mk n5; have N6 := Aside0.mk n6; have hq5 := HX5d.out; have k0 : w10.cell? ⟨b5, 0, none⟩ = some (.int .i64 1) := blk_cell hq5 0; have k1 : w10.cell? ⟨b5, 1, none⟩ = some (.int .i64 n) := blk_cell hq5 1; have k2 : w10.cell? ⟨b5, 2, none⟩ = some (.string x0) := blk_cell hq5 2; have k3 : w10.cell? ⟨b5, 3, none⟩ = some (.int .i64 x1) := blk_cell hq5 3; have k4 : w10.cell? ⟨b5, 4, none⟩ = some (.int .i64 x2) := blk_cell hq5 4; have k5 : w10.cell? ⟨b5, 5, none⟩ = some (.int .i64 x3) := blk_cell hq5 5; have k6 : w10.cell? ⟨b5, 6, none⟩ = some (.int .i32 x4) := blk_cell hq5 6; have k7 : w10.cell? ⟨b5, 7, none⟩ = some (.int .i64 x5) := blk_cell hq5 7; have k8 : w10.cell? ⟨b5, 8, none⟩ = some (.bool x6) := blk_cell hq5 8; have k9 : w10.cell? ⟨b5, 9, none⟩ = some (.slice A7 n7 c7) := blk_cell hq5 9; have k10 : w10.cell? ⟨b5, 10, none⟩ = some (.slice A2 n2 c2) := blk_cell hq5 10; have hq4d := HX4d.out; have d0 : w10.cell? ⟨b4, 0, none⟩ = some (.slice AL nL cL) := blk_cell hq4d 0; have d1 : w10.cell? ⟨b4, 1, none⟩ = some (.int .i64 lv) := blk_cell hq4d 1; have d2 : w10.cell? ⟨b4, 2, none⟩ = some (.slice AM nM cM) := blk_cell hq4d 2; have z0 : w10.cell? ⟨b10, 0, none⟩ = some (.slice none 0 0) := blk_cell hbox 0; have z1 : w10.cell? ⟨b10, 1, none⟩ = some (.int .i64 0) := blk_cell hbox 1; have z2 : w10.cell? ⟨b10, 2, none⟩ = some (.slice none 0 0) := blk_cell hbox 2; have y0 := blk_frozen hbox 0; have y1 := blk_frozen hbox 1; have y2 := blk_frozen hbox 2; clear hq5 hq4d; clear hgx hbox hb))
  obtain ⟨W1, hW1⟩ : ∃ W1, (((w10.setCell ⟨b10, 0, none⟩ (.slice AL nL cL)).setCell ⟨b10, 1, none⟩ (.int .i64 lv)).setCell ⟨b10, 2, none⟩ (.slice AM nM cM)) = W1 := ⟨_, rfl⟩
  have HB1 := Aside0.mk (show Below w.heap.size w W1 by rw [← hW1]; exact sc_put3b HB10.out HG10.out _ _ _)
  have hx4 : W1.heap[b4]? = some (.cells #[.slice AL nL cL, .int .i64 lv, .slice AM nM cM] 31 (0, 0)) := by rw [← hW1]; exact sc_far3 HX4d.out N4.out _ _ _
  have hx5 : W1.heap[b5]? = some (.cells #[.int .i64 1, .int .i64 n, .string x0, .int .i64 x1, .int .i64 x2, .int .i64 x3, .int .i32 x4, .int .i64 x5, .bool x6, .slice A7 n7 c7, .slice A2 n2 c2] 57 (0, 0)) := by rw [← hW1]; exact sc_far3 HX5d.out N5.out _ _ _
  have hx6 : W1.heap[b6]? = some (.cells #[.slice none 0 0, .int .i64 0, .slice none 0 0] 31 (0, 0)) := by rw [← hW1]; exact sc_far3 HX6d.out N6.out _ _ _
  have hx10 : W1.heap[b10]? = some (.cells #[.slice AL nL cL, .int .i64 lv, .slice AM nM cM] 31 (0, 0)) := by rw [← hW1]; exact sc_put3 HX10.out _ _ _
  rw [hW1]
  clear hW1 HX4 HX4b HX4c HX4d HX5 HX5c HX5d HX6 HX6d HX10 N4 N5 k0 k1 k2 k3 k4 k5 k6 k7 k8 k9 k10 e0 e1 e2 d0 d1 d2 z0 z1 z2 y0 y1 y2 n4 n5 n6 HB4 HB5 HB6 HB10 hq4
  have HX4 := Aside0.mk hx4; have HX5 := Aside0.mk hx5; have HX6 := Aside0.mk hx6; have HX10 := Aside0.mk hx10
  have HI1 := Aside0.mk (HS.out.is.below HB1.out)
  have HZ := Aside0.mk (show col b4 = 0 ∧ col b5 = 0 ∧ col b6 = 0 ∧ col b10 = 0 from ⟨HS.out.is.new _ HG4.out, HS.out.is.new _ HG5.out, HS.out.is.new _ HG6.out, HS.out.is.new _ HG10.out⟩)
  have o0 : W1.cell? ⟨b5, 0, none⟩ = some (.int .i64 1) := blk_cell hx5 0; have o1 : W1.cell? ⟨b5, 1, none⟩ = some (.int .i64 n) := blk_cell hx5 1; have o2 : W1.cell? ⟨b5, 2, none⟩ = some (.string x0) := blk_cell hx5 2; have o3 : W1.cell? ⟨b5, 3, none⟩ = some (.int .i64 x1) := blk_cell hx5 3; have o4 : W1.cell? ⟨b5, 4, none⟩ = some (.int .i64 x2) := blk_cell hx5 4; have o5 : W1.cell? ⟨b5, 5, none⟩ = some (.int .i64 x3) := blk_cell hx5 5; have o6 : W1.cell? ⟨b5, 6, none⟩ = some (.int .i32 x4) := blk_cell hx5 6; have o7 : W1.cell? ⟨b5, 7, none⟩ = some (.int .i64 x5) := blk_cell hx5 7; have o8 : W1.cell? ⟨b5, 8, none⟩ = some (.bool x6) := blk_cell hx5 8; have o9 : W1.cell? ⟨b5, 9, none⟩ = some (.slice A7 n7 c7) := blk_cell hx5 9; have o10 : W1.cell? ⟨b5, 10, none⟩ = some (.slice A2 n2 c2) := blk_cell hx5 10
  clear hx4 hx5 hx6 hx10
  go_wp2_with (go_at_call 12; go_loud (refine (HSTEP.out base _ g col HI1.out).mono ?_; rintro e wA ⟨rfl, cA, hI, hKx⟩; have HCZ := Aside0.mk (show ∀ b, b < W1.heap.size → col b = 0 → cA b = 0 from fun b hb h0 => by rw [hKx.ext b hb]; exact h0); have hK := hKx; have HIA := Aside0.mk hI; have HKA := Aside0.mk ((ScK.of_below HB1.out HBS.out).trans hK); have HA4 := Aside0.mk ((hK.keep b4 (blk_lt HX4.out) HZ.out.1).trans HX4.out); have HA5 := Aside0.mk ((hK.keep b5 (blk_lt HX5.out) HZ.out.2.1).trans HX5.out); have HA6 := Aside0.mk ((hK.keep b6 (blk_lt HX6.out) HZ.out.2.2.1).trans HX6.out); have HA10 := Aside0.mk ((hK.keep b10 (blk_lt HX10.out) HZ.out.2.2.2).trans HX10.out); have HSZ := Aside0.mk (show W1.heap.size ≤ wA.heap.size from hK.below.size); have HL14 := Aside0.mk (show b4 < W1.heap.size ∧ b5 < W1.heap.size ∧ b6 < W1.heap.size ∧ b10 < W1.heap.size from ⟨blk_lt HX4.out, blk_lt HX5.out, blk_lt HX6.out, blk_lt HX10.out⟩); have HVLA := Aside0.mk (Kd.V_step (Kd.V_below HVL.out HB1.out) (fun k h0 hlt => hK.keep k (Nat.lt_of_lt_of_le h0.2 HB1.out.size) h0.1.1)); have HVMA := Aside0.mk (Kd.V_step (Kd.V_below HVM.out HB1.out) (fun k h0 hlt => hK.keep k (Nat.lt_of_lt_of_le h0.2 HB1.out.size) h0.1.1)); have HV7A := Aside0.mk (Kd.V_step (Kd.V_below HV7.out HB1.out) (fun k h0 hlt => hK.keep k (Nat.lt_of_lt_of_le h0.2 HB1.out.size) h0.1.1)); have HV2A := Aside0.mk (Kd.V_step (Kd.V_below HV2.out HB1.out) (fun k h0 hlt => hK.keep k (Nat.lt_of_lt_of_le h0.2 HB1.out.size) h0.1.1)); have e0 : wA.cell? ⟨b4, 0, none⟩ = some (.slice AL nL cL) := blk_cell HA4.out 0; have e1 : wA.cell? ⟨b4, 1, none⟩ = some (.int .i64 lv) := blk_cell HA4.out 1; have e2 : wA.cell? ⟨b4, 2, none⟩ = some (.slice AM nM cM) := blk_cell HA4.out 2; have a0 : wA.cell? ⟨b5, 0, none⟩ = some (.int .i64 1) := blk_cell HA5.out 0; have a1 : wA.cell? ⟨b5, 1, none⟩ = some (.int .i64 n) := blk_cell HA5.out 1; have a2 : wA.cell? ⟨b5, 2, none⟩ = some (.string x0) := blk_cell HA5.out 2; have a3 : wA.cell? ⟨b5, 3, none⟩ = some (.int .i64 x1) := blk_cell HA5.out 3; have a4 : wA.cell? ⟨b5, 4, none⟩ = some (.int .i64 x2) := blk_cell HA5.out 4; have a5 : wA.cell? ⟨b5, 5, none⟩ = some (.int .i64 x3) := blk_cell HA5.out 5; have a6 : wA.cell? ⟨b5, 6, none⟩ = some (.int .i32 x4) := blk_cell HA5.out 6; have a7 : wA.cell? ⟨b5, 7, none⟩ = some (.int .i64 x5) := blk_cell HA5.out 7; have a8 : wA.cell? ⟨b5, 8, none⟩ = some (.bool x6) := blk_cell HA5.out 8; have a9 : wA.cell? ⟨b5, 9, none⟩ = some (.slice A7 n7 c7) := blk_cell HA5.out 9; have a10 : wA.cell? ⟨b5, 10, none⟩ = some (.slice A2 n2 c2) := blk_cell HA5.out 10; clear hI hK o0 o1 o2 o3 o4 o5 o6 o7 o8 o9 o10; clear hKx))
  go_wp2_with (go_at_call 30; (refine (rf_Close_calls HVLA.out HVMA.out HLV.out (by have h1 := HS.out.len; have h2 := HNN.out; omega)).mono ?_; rw [HCR.out]; rintro e wB ⟨AR, nR, cR, AQ, nQ, cQ, rfl, hvL, hvM, hb⟩; have HRL := Aside0.mk hvL; have HRM := Aside0.mk hvM; have HBB := Aside0.mk hb; have HY6 := Aside0.mk (blk_below HA6.out hb); have HY10 := Aside0.mk (blk_below HA10.out hb); have z0 : wB.cell? ⟨b10, 0, none⟩ = some (.slice AL nL cL) := blk_cell HY10.out 0; have z1 : wB.cell? ⟨b10, 1, none⟩ = some (.int .i64 lv) := blk_cell HY10.out 1; have z2 : wB.cell? ⟨b10, 2, none⟩ = some (.slice AM nM cM) := blk_cell HY10.out 2; have y0 := blk_frozen HY10.out 0; have y1 := blk_frozen HY10.out 1; have y2 := blk_frozen HY10.out 2; have n6 : b6 ≠ b10 := N6.out; have n6' : b10 ≠ b6 := Ne.symm N6.out; have u0 : wB.cell? ⟨b6, 0, none⟩ = some (.slice none 0 0) := blk_cell HY6.out 0; have u1 : wB.cell? ⟨b6, 1, none⟩ = some (.int .i64 0) := blk_cell HY6.out 1; have u2 : wB.cell? ⟨b6, 2, none⟩ = some (.slice none 0 0) := blk_cell HY6.out 2; have s0 := blk_frozen HY6.out 0; have s1 := blk_frozen HY6.out 1; have s2 := blk_frozen HY6.out 2; clear hvL hvM hb e0 e1 e2 a0 a1 a2 a3 a4 a5 a6 a7 a8 a9 a10))
  refine bodyPost_ret (results_list (rs := [.cell 6 31, .tmp 7]) rfl (by simp) (.cell b6 31 #[.slice AR nR cR, .int .i64 r2, .slice AQ nQ cQ] (0, 0) _ rfl (sc_put3 (sc_far3 HY6.out N6.out _ _ _) _ _ _) Try.underlying31 rfl (by kernel_rfl) (.tmp .nil))) rfl ?_
  exact do_end HS.out HBS.out HIA.out HKA.out HBB.out HG6.out HG10.out (Nat.lt_of_lt_of_le HL14.out.2.2.1 HSZ.out) (Nat.lt_of_lt_of_le HL14.out.2.2.2 HSZ.out) (HCZ.out b6 HL14.out.2.2.1 HZ.out.2.2.1) (HCZ.out b10 HL14.out.2.2.2 HZ.out.2.2.2) HRL.out HRM.out HST.out _ _ _ _ _ _
theorem do_cell {w : World} {g b i : Nat} {v : Value} (h : w.cell? ⟨b, i, none⟩ = some v) (hne : b ≠ g) (y0 y1 y2 : Value) : (((w.setCell ⟨g, 0, none⟩ y0).setCell ⟨g, 1, none⟩ y1).setCell ⟨g, 2, none⟩ y2).cell? ⟨b, i, none⟩ = some v := by
  have e : ∀ (W : World) (j : Nat) (y : Value), (W.setCell ⟨g, j, none⟩ y).cell? ⟨b, i, none⟩ = W.cell? ⟨b, i, none⟩ := fun W j y => World.cell?_setCell_far W ⟨g, j, none⟩ ⟨b, i, none⟩ y (fun e => hne e.symm)
  rw [e, e, e]
  exact h
set_option maxRecDepth 100000 in
set_option maxHeartbeats 4000000 in
theorem sc_do_2 {bx : List Nat} {N base : Nat} {w : World} {g : Nat} {col : Nat → Nat} {D M : List (List SO)} {L : List RO} {lv : Int} {Ms : List (List RO)} {vL vM : Value} (h : St bx N base w g col D M L lv Ms vL vM) (hN : N ≤ 999) (kd n : Int) (x : SO) (v7 v2 : Value) (l : List S71)
    (h7 : Kd.V k69 69 w 0 (FP bx col) v7 x.f7) (h2 : Kd.V k71 71 w 0 (FP bx col) v2 l) (hx7 : x.f7.length ≤ 1048576) (hl : l.length ≤ 1048576) (hle : ∀ e ∈ l, e.f4.length ≤ 1048576) (hk : kd = 2) :
    Calls Try.prog 21 #[.pointer (some ⟨g, 0, none⟩), .agg #[vL, .int .i64 lv, vM], .agg #[.int .i64 kd, .int .i64 n, .string x.f0, .int .i64 x.f1, .int .i64 x.f2, .int .i64 x.f3, .int .i32 x.f4, .int .i64 x.f5, .bool x.f6, v7, v2]] w (DoPost bx (N + 1) base w g col) := by
  obtain ⟨AL, nL, cL, rfl⟩ := V_slc h.vl
  obtain ⟨AM, nM, cM, rfl⟩ := V_slc h.vm
  obtain ⟨A7, n7, c7, rfl⟩ := V_slc h7
  obtain ⟨A2, n2, c2, rfl⟩ := V_slc h2
  obtain ⟨x0, x1, x2, x3, x4, x5, x6, x7⟩ := x
  dsimp only at h7 hx7 ⊢
  have HS := Aside0.mk h
  have HVL := Aside0.mk (Kd.V_bound h.vl); have HVM := Aside0.mk (Kd.V_bound h.vm); have HV7 := Aside0.mk (Kd.V_bound h7); have HV2 := Aside0.mk (Kd.V_bound h2)
  have HNN := Aside0.mk hN; have HX7 := Aside0.mk hx7; have HLL := Aside0.mk hl; have HLE := Aside0.mk hle
  have hsl := h.is.len
  have HSL := Aside0.mk hsl
  have hlv := h.sim.lv
  have HLV := Aside0.mk (show 0 ≤ lv ∧ lv ≤ 64 by omega)
  have HDQ := Aside0.mk (show (D.getD (D.length - 1) []).length ≤ 4096 by
    rw [List.getD_eq_getElem?_getD, List.getElem?_eq_getElem (by omega)]
    exact hsl.2.2.2 _ (List.getElem_mem _))
  have HBS := Aside0.mk (show base ≤ w.heap.size by have := h.is.base; omega)
  have HB := Aside0.mk (Below.refl w.heap.size w)
  clear h h7 h2 hx7 hl hle hN hsl hlv
  obtain ⟨D', code, r, hcr, hst, hstep⟩ := step_Declare HS.out.sim HDQ.out HSL.out.2.2.1 HS.out.par (⟨x0, x1, x2, x3, x4, x5, x6, x7⟩ : SO) HX7.out
  obtain ⟨r1, r2, r3⟩ := r
  have HCR := Aside0.mk (show rf_declare L lv Ms (sc_r (⟨x0, x1, x2, x3, x4, x5, x6, x7⟩ : SO)) = (r1, r2, r3, code) from hcr); have HST := Aside0.mk hst; have HSTEP := Aside0.mk hstep
  clear hcr hst hstep
  subst hk
  go_enter Try.func21, Try.ntmps21
  go_wp2_with (first
    | ((with_reducible refine gate_dst (N := 4) rfl ?_); refine box_event ?hg (N := 4) ?hd (cs := #[.slice AL nL cL, .int .i64 lv, .slice AM nM cM]) (t := 31) ?hr ?_; (case hd => rfl); (case hg => rfl); (case hr => first | (go_simp; done) | (go_simp; rfl)); intro b4 hgx w4 hbox hb; have HB4 := Aside0.mk (below_step HB.out hb); have HX4 := Aside0.mk hbox; have HG4 := Aside0.mk (show w.heap.size ≤ b4 by rw [hgx]; exact HB.out.size); skip; clear hgx hbox hb)
    | ((with_reducible refine gate_dst (N := 5) rfl ?_); refine box_event ?hg (N := 5) ?hd (cs := #[.int .i64 2, .int .i64 n, .string x0, .int .i64 x1, .int .i64 x2, .int .i64 x3, .int .i32 x4, .int .i64 x5, .bool x6, .slice A7 n7 c7, .slice A2 n2 c2]) (t := 57) ?hr ?_; (case hd => rfl); (case hg => rfl); (case hr => first | (go_simp; done) | (go_simp; rfl)); intro b5 hgx w5 hbox hb; have HB5 := Aside0.mk (below_step HB4.out hb); have HX5 := Aside0.mk hbox; have HG5 := Aside0.mk (show w.heap.size ≤ b5 by rw [hgx]; exact HB4.out.size); have HX4b := Aside0.mk (blk_below HX4.out hb); have N54 := Aside0.mk (show b4 ≠ b5 from fun e => by have := blk_lt HX4.out; omega); clear hgx hbox hb)
    | ((with_reducible refine gate_dst (N := 6) rfl ?_); refine box_event ?hg (N := 6) ?hd (cs := #[.slice none 0 0, .int .i64 0, .slice none 0 0]) (t := 31) ?hr ?_; (case hd => rfl); (case hg => rfl); (case hr => first | (go_simp; done) | (go_simp; rfl)); intro b6 hgx w6 hbox hb; have HB6 := Aside0.mk (below_step HB5.out hb); have HX6 := Aside0.mk hbox; have HG6 := Aside0.mk (show w.heap.size ≤ b6 by rw [hgx]; exact HB5.out.size); have HX4c := Aside0.mk (blk_below HX4b.out hb); have HX5c := Aside0.mk (blk_below HX5.out hb); have hq4 := HX4c.out; have e0 : w6.cell? ⟨b4, 0, none⟩ = some (.slice AL nL cL) := blk_cell hq4 0; have e1 : w6.cell? ⟨b4, 1, none⟩ = some (.int .i64 lv) := blk_cell hq4 1; have e2 : w6.cell? ⟨b4, 2, none⟩ = some (.slice AM nM cM) := blk_cell hq4 2; clear hgx hbox hb)
    | ((with_reducible refine gate_dst (N := 10) rfl ?_); refine box_event ?hg (N := 10) ?hd (cs := #[.slice none 0 0, .int .i64 0, .slice none 0 0]) (t := 31) ?hr ?_; (case hd => rfl); (case hg => rfl); (case hr => first | (go_simp; done) | (go_simp; rfl)); intro b10 hgx w10 hbox hb; have HB10 := Aside0.mk (below_step HB6.out hb); have HX10 := Aside0.mk hbox; have HG10 := Aside0.mk (show w.heap.size ≤ b10 by rw [hgx]; exact HB6.out.size); have HX4d := Aside0.mk (blk_below HX4c.out hb); have HX5d := Aside0.mk (blk_below HX5c.out hb); have HX6d := Aside0.mk (blk_below HX6.out hb); have n4 : b4 ≠ b10 := (fun e => by have := blk_lt HX4c.out; omega); have n5 : b5 ≠ b10 := (fun e => by have := blk_lt HX5c.out; omega); have n6 : b6 ≠ b10 := (fun e => by have := blk_lt HX6.out; omega); have N4 := Aside0.mk n4; have N5 := Aside0.mk n5; have N6 := Aside0.mk n6; have hq5 := HX5d.out; have k0 : w10.cell? ⟨b5, 0, none⟩ = some (.int .i64 2) := blk_cell hq5 0; have k1 : w10.cell? ⟨b5, 1, none⟩ = some (.int .i64 n) := blk_cell hq5 1; have k2 : w10.cell? ⟨b5, 2, none⟩ = some (.string x0) := blk_cell hq5 2; have k3 : w10.cell? ⟨b5, 3, none⟩ = some (.int .i64 x1) := blk_cell hq5 3; have k4 : w10.cell? ⟨b5, 4, none⟩ = some (.int .i64 x2) := blk_cell hq5 4; have k5 : w10.cell? ⟨b5, 5, none⟩ = some (.int .i64 x3) := blk_cell hq5 5; have k6 : w10.cell? ⟨b5, 6, none⟩ = some (.int .i32 x4) := blk_cell hq5 6; have k7 : w10.cell? ⟨b5, 7, none⟩ = some (.int .i64 x5) := blk_cell hq5 7; have k8 : w10.cell? ⟨b5, 8, none⟩ = some (.bool x6) := blk_cell hq5 8; have k9 : w10.cell? ⟨b5, 9, none⟩ = some (.slice A7 n7 c7) := blk_cell hq5 9; have k10 : w10.cell? ⟨b5, 10, none⟩ = some (.slice A2 n2 c2) := blk_cell hq5 10; have hq4d := HX4d.out; have d0 : w10.cell? ⟨b4, 0, none⟩ = some (.slice AL nL cL) := blk_cell hq4d 0; have d1 : w10.cell? ⟨b4, 1, none⟩ = some (.int .i64 lv) := blk_cell hq4d 1; have d2 : w10.cell? ⟨b4, 2, none⟩ = some (.slice AM nM cM) := blk_cell hq4d 2; have z0 : w10.cell? ⟨b10, 0, none⟩ = some (.slice none 0 0) := blk_cell hbox 0; have z1 : w10.cell? ⟨b10, 1, none⟩ = some (.int .i64 0) := blk_cell hbox 1; have z2 : w10.cell? ⟨b10, 2, none⟩ = some (.slice none 0 0) := blk_cell hbox 2; have y0 := blk_frozen hbox 0; have y1 := blk_frozen hbox 1; have y2 := blk_frozen hbox 2; clear hq5 hq4d; clear hgx hbox hb))
  obtain ⟨W1, hW1⟩ : ∃ W1, (((w10.setCell ⟨b10, 0, none⟩ (.slice AL nL cL)).setCell ⟨b10, 1, none⟩ (.int .i64 lv)).setCell ⟨b10, 2, none⟩ (.slice AM nM cM)) = W1 := ⟨_, rfl⟩
  have HB1 := Aside0.mk (show Below w.heap.size w W1 by rw [← hW1]; exact sc_put3b HB10.out HG10.out _ _ _)
  have hx4 : W1.heap[b4]? = some (.cells #[.slice AL nL cL, .int .i64 lv, .slice AM nM cM] 31 (0, 0)) := by rw [← hW1]; exact sc_far3 HX4d.out N4.out _ _ _
  have hx5 : W1.heap[b5]? = some (.cells #[.int .i64 2, .int .i64 n, .string x0, .int .i64 x1, .int .i64 x2, .int .i64 x3, .int .i32 x4, .int .i64 x5, .bool x6, .slice A7 n7 c7, .slice A2 n2 c2] 57 (0, 0)) := by rw [← hW1]; exact sc_far3 HX5d.out N5.out _ _ _
  have hx6 : W1.heap[b6]? = some (.cells #[.slice none 0 0, .int .i64 0, .slice none 0 0] 31 (0, 0)) := by rw [← hW1]; exact sc_far3 HX6d.out N6.out _ _ _
  have hx10 : W1.heap[b10]? = some (.cells #[.slice AL nL cL, .int .i64 lv, .slice AM nM cM] 31 (0, 0)) := by rw [← hW1]; exact sc_put3 HX10.out _ _ _
  rw [hW1]
  clear hW1 HX4 HX4b HX4c HX4d HX5 HX5c HX5d HX6 HX6d HX10 k0 k1 k2 k3 k4 k5 k6 k7 k8 k9 k10 e0 e1 e2 d0 d1 d2 z0 z1 z2 y0 y1 y2 n4 n5 n6 HB4 HB5 HB6 HB10 hq4
  have N4b := N4; have N5b := N5; clear N4 N5
  have HX4 := Aside0.mk hx4; have HX5 := Aside0.mk hx5; have HX6 := Aside0.mk hx6; have HX10 := Aside0.mk hx10
  have HI1 := Aside0.mk (HS.out.is.below HB1.out)
  have HZ := Aside0.mk (show col b4 = 0 ∧ col b5 = 0 ∧ col b6 = 0 ∧ col b10 = 0 from ⟨HS.out.is.new _ HG4.out, HS.out.is.new _ HG5.out, HS.out.is.new _ HG6.out, HS.out.is.new _ HG10.out⟩)
  have o0 : W1.cell? ⟨b5, 0, none⟩ = some (.int .i64 2) := blk_cell hx5 0; have o1 : W1.cell? ⟨b5, 1, none⟩ = some (.int .i64 n) := blk_cell hx5 1; have o2 : W1.cell? ⟨b5, 2, none⟩ = some (.string x0) := blk_cell hx5 2; have o3 : W1.cell? ⟨b5, 3, none⟩ = some (.int .i64 x1) := blk_cell hx5 3; have o4 : W1.cell? ⟨b5, 4, none⟩ = some (.int .i64 x2) := blk_cell hx5 4; have o5 : W1.cell? ⟨b5, 5, none⟩ = some (.int .i64 x3) := blk_cell hx5 5; have o6 : W1.cell? ⟨b5, 6, none⟩ = some (.int .i32 x4) := blk_cell hx5 6; have o7 : W1.cell? ⟨b5, 7, none⟩ = some (.int .i64 x5) := blk_cell hx5 7; have o8 : W1.cell? ⟨b5, 8, none⟩ = some (.bool x6) := blk_cell hx5 8; have o9 : W1.cell? ⟨b5, 9, none⟩ = some (.slice A7 n7 c7) := blk_cell hx5 9; have o10 : W1.cell? ⟨b5, 10, none⟩ = some (.slice A2 n2 c2) := blk_cell hx5 10
  clear hx4 hx5 hx6 hx10
  go_wp2_with (go_at_call 11; go_loud (refine (HSTEP.out base _ g col A7 n7 c7 HI1.out (Kd.V_reads' (Kd.V_below HV7.out HB1.out)).2.2 (Kd.V_reads' HV7.out).1.symm (Kd.V_reads' HV7.out).2.1).mono ?_; rintro e wA ⟨rfl, cA, hI, hKx⟩; have HCZ := Aside0.mk (show ∀ b, b < W1.heap.size → col b = 0 → cA b = 0 from fun b hb h0 => by rw [hKx.ext b hb]; exact h0); have hK := hKx; have HIA := Aside0.mk hI; have HKA := Aside0.mk ((ScK.of_below HB1.out HBS.out).trans hK); have HA4 := Aside0.mk ((hK.keep b4 (blk_lt HX4.out) HZ.out.1).trans HX4.out); have HA5 := Aside0.mk ((hK.keep b5 (blk_lt HX5.out) HZ.out.2.1).trans HX5.out); have HA6 := Aside0.mk ((hK.keep b6 (blk_lt HX6.out) HZ.out.2.2.1).trans HX6.out); have HA10 := Aside0.mk ((hK.keep b10 (blk_lt HX10.out) HZ.out.2.2.2).trans HX10.out); have HSZ := Aside0.mk (show W1.heap.size ≤ wA.heap.size from hK.below.size); have HL14 := Aside0.mk (show b4 < W1.heap.size ∧ b5 < W1.heap.size ∧ b6 < W1.heap.size ∧ b10 < W1.heap.size from ⟨blk_lt HX4.out, blk_lt HX5.out, blk_lt HX6.out, blk_lt HX10.out⟩); have HVLA := Aside0.mk (Kd.V_step (Kd.V_below HVL.out HB1.out) (fun k h0 hlt => hK.keep k (Nat.lt_of_lt_of_le h0.2 HB1.out.size) h0.1.1)); have HVMA := Aside0.mk (Kd.V_step (Kd.V_below HVM.out HB1.out) (fun k h0 hlt => hK.keep k (Nat.lt_of_lt_of_le h0.2 HB1.out.size) h0.1.1)); have HV7A := Aside0.mk (Kd.V_step (Kd.V_below HV7.out HB1.out) (fun k h0 hlt => hK.keep k (Nat.lt_of_lt_of_le h0.2 HB1.out.size) h0.1.1)); have HV2A := Aside0.mk (Kd.V_step (Kd.V_below HV2.out HB1.out) (fun k h0 hlt => hK.keep k (Nat.lt_of_lt_of_le h0.2 HB1.out.size) h0.1.1)); have e0 : wA.cell? ⟨b4, 0, none⟩ = some (.slice AL nL cL) := blk_cell HA4.out 0; have e1 : wA.cell? ⟨b4, 1, none⟩ = some (.int .i64 lv) := blk_cell HA4.out 1; have e2 : wA.cell? ⟨b4, 2, none⟩ = some (.slice AM nM cM) := blk_cell HA4.out 2; have a0 : wA.cell? ⟨b5, 0, none⟩ = some (.int .i64 2) := blk_cell HA5.out 0; have a1 : wA.cell? ⟨b5, 1, none⟩ = some (.int .i64 n) := blk_cell HA5.out 1; have a2 : wA.cell? ⟨b5, 2, none⟩ = some (.string x0) := blk_cell HA5.out 2; have a3 : wA.cell? ⟨b5, 3, none⟩ = some (.int .i64 x1) := blk_cell HA5.out 3; have a4 : wA.cell? ⟨b5, 4, none⟩ = some (.int .i64 x2) := blk_cell HA5.out 4; have a5 : wA.cell? ⟨b5, 5, none⟩ = some (.int .i64 x3) := blk_cell HA5.out 5; have a6 : wA.cell? ⟨b5, 6, none⟩ = some (.int .i32 x4) := blk_cell HA5.out 6; have a7 : wA.cell? ⟨b5, 7, none⟩ = some (.int .i64 x5) := blk_cell HA5.out 7; have a8 : wA.cell? ⟨b5, 8, none⟩ = some (.bool x6) := blk_cell HA5.out 8; have a9 : wA.cell? ⟨b5, 9, none⟩ = some (.slice A7 n7 c7) := blk_cell HA5.out 9; have a10 : wA.cell? ⟨b5, 10, none⟩ = some (.slice A2 n2 c2) := blk_cell HA5.out 10; clear hI hK o0 o1 o2 o3 o4 o5 o6 o7 o8 o9 o10; clear hKx))
  refine wp_region_held_drew (S := fun w' => w'.cell? ⟨b4, 0, none⟩ = some (.slice AL nL cL) ∧ w'.cell? ⟨b4, 1, none⟩ = some (.int .i64 lv) ∧ w'.cell? ⟨b4, 2, none⟩ = some (.slice AM nM cM) ∧ w'.cell? ⟨b5, 2, none⟩ = some (.string x0) ∧ w'.cell? ⟨b5, 3, none⟩ = some (.int .i64 x1) ∧ w'.cell? ⟨b5, 4, none⟩ = some (.int .i64 x2) ∧ w'.cell? ⟨b5, 5, none⟩ = some (.int .i64 x3) ∧ w'.cell? ⟨b5, 6, none⟩ = some (.int .i32 x4) ∧ w'.cell? ⟨b5, 7, none⟩ = some (.int .i64 x5) ∧ w'.cell? ⟨b5, 8, none⟩ = some (.bool x6) ∧ w'.cell? ⟨b5, 9, none⟩ = some (.slice A7 n7 c7)) (by kernel_rfl) (show wA.drew.cell? ⟨b4, 0, none⟩ = some (.slice AL nL cL) ∧ wA.drew.cell? ⟨b4, 1, none⟩ = some (.int .i64 lv) ∧ wA.drew.cell? ⟨b4, 2, none⟩ = some (.slice AM nM cM) ∧ wA.drew.cell? ⟨b5, 2, none⟩ = some (.string x0) ∧ wA.drew.cell? ⟨b5, 3, none⟩ = some (.int .i64 x1) ∧ wA.drew.cell? ⟨b5, 4, none⟩ = some (.int .i64 x2) ∧ wA.drew.cell? ⟨b5, 5, none⟩ = some (.int .i64 x3) ∧ wA.drew.cell? ⟨b5, 6, none⟩ = some (.int .i32 x4) ∧ wA.drew.cell? ⟨b5, 7, none⟩ = some (.int .i64 x5) ∧ wA.drew.cell? ⟨b5, 8, none⟩ = some (.bool x6) ∧ wA.drew.cell? ⟨b5, 9, none⟩ = some (.slice A7 n7 c7) from ⟨blk_cell (blk_drew HA4.out) 0, blk_cell (blk_drew HA4.out) 1, blk_cell (blk_drew HA4.out) 2, blk_cell (blk_drew HA5.out) 2, blk_cell (blk_drew HA5.out) 3, blk_cell (blk_drew HA5.out) 4, blk_cell (blk_drew HA5.out) 5, blk_cell (blk_drew HA5.out) 6, blk_cell (blk_drew HA5.out) 7, blk_cell (blk_drew HA5.out) 8, blk_cell (blk_drew HA5.out) 9⟩) (fun hHeld => ?_)
  refine C.tk_take (i := 0) (v := ?_) (by kernel_rfl) (by kernel_rfl) (by kernel_rfl) (fun oi hoi => ?_) rfl
  rotate_left
  simp only [List.getElem?_toArray, List.getElem?_cons_succ, List.getElem?_cons_zero] at hoi
  cases hoi
  refine ⟨fun _ _ _ h => h, Or.inl ⟨by rfl, ?_⟩, by assumption, ?_⟩
  · (intro w hSw; (try dsimp only at hSw); go_simp; all_goals with_reducible rfl)
  try simp only [Act.put, List.setIfInBounds_toArray, List.set_cons_zero, List.set_cons_succ]
  refine C.tk_take (i := 1) (v := ?_) (by kernel_rfl) (by kernel_rfl) (by kernel_rfl) (fun oi hoi => ?_) rfl
  rotate_left
  simp only [List.getElem?_toArray, List.getElem?_cons_succ, List.getElem?_cons_zero] at hoi
  cases hoi
  refine ⟨fun _ _ _ h => h, Or.inl ⟨by rfl, ?_⟩, by assumption, ?_⟩
  · (intro w hSw; (try dsimp only at hSw); go_simp; all_goals with_reducible rfl)
  try simp only [Act.put, List.setIfInBounds_toArray, List.set_cons_zero, List.set_cons_succ]
  refine C.tk_take (i := 2) (v := ?_) (by kernel_rfl) (by kernel_rfl) (by kernel_rfl) (fun oi hoi => ?_) rfl
  rotate_left
  simp only [List.getElem?_toArray, List.getElem?_cons_succ, List.getElem?_cons_zero] at hoi
  cases hoi
  refine ⟨fun _ _ _ h => h, Or.inl ⟨by rfl, ?_⟩, by assumption, ?_⟩
  · (intro w hSw; (try dsimp only at hSw); go_simp; all_goals with_reducible rfl)
  try simp only [Act.put, List.setIfInBounds_toArray, List.set_cons_zero, List.set_cons_succ]
  refine wpAnyH_ready (rs := [3]) (by kernel_rfl) (by simp) ?_
  refine AllReadyH.cons rfl (fun K hK => ?_) AllReadyH.nil
  rw [if_pos (by rfl)]
  go_simp
  go_at_call 32
  refine (sc_ref_calls x0 x1 x2 x3 x4 x5 x6 A7 n7 c7 _).mono ?_
  rintro e wR ⟨rfl, hb⟩
  have hbR := below_step (below_drew (Below.refl wA.heap.size wA)) hb
  have HBR := Aside0.mk hbR
  have HR4 := Aside0.mk (blk_below HA4.out hbR)
  have HR5 := Aside0.mk (blk_below HA5.out hbR)
  have hSR : wR.cell? ⟨b4, 0, none⟩ = some (.slice AL nL cL) ∧ wR.cell? ⟨b4, 1, none⟩ = some (.int .i64 lv) ∧ wR.cell? ⟨b4, 2, none⟩ = some (.slice AM nM cM) ∧ wR.cell? ⟨b5, 2, none⟩ = some (.string x0) ∧ wR.cell? ⟨b5, 3, none⟩ = some (.int .i64 x1) ∧ wR.cell? ⟨b5, 4, none⟩ = some (.int .i64 x2) ∧ wR.cell? ⟨b5, 5, none⟩ = some (.int .i64 x3) ∧ wR.cell? ⟨b5, 6, none⟩ = some (.int .i32 x4) ∧ wR.cell? ⟨b5, 7, none⟩ = some (.int .i64 x5) ∧ wR.cell? ⟨b5, 8, none⟩ = some (.bool x6) ∧ wR.cell? ⟨b5, 9, none⟩ = some (.slice A7 n7 c7) := ⟨blk_cell HR4.out 0, blk_cell HR4.out 1, blk_cell HR4.out 2, blk_cell HR5.out 2, blk_cell HR5.out 3, blk_cell HR5.out 4, blk_cell HR5.out 5, blk_cell HR5.out 6, blk_cell HR5.out 7, blk_cell HR5.out 8, blk_cell HR5.out 9⟩
  clear hb hbR
  go_wp2
  refine hK.out _ _ hSR (fun hHeld => ?_)
  clear hK
  try simp only [Act.put, List.setIfInBounds_toArray, List.set_cons_zero, List.set_cons_succ]
  refine wpAnyH_ready (rs := [4]) (by kernel_rfl) (by simp) ?_
  refine AllReadyH.cons rfl (fun K hK => ?_) AllReadyH.nil
  rw [if_pos (by rfl)]
  go_simp
  go_at_call 31
  refine (rf_Declare_calls (Kd.V_below HVLA.out HBR.out) (Kd.V_below HVMA.out HBR.out) (by have h1 := HS.out.len; have h2 := HNN.out; omega) (sc_r (⟨x0, x1, x2, x3, x4, x5, x6, x7⟩ : SO)) (Kd.V_below HV7A.out HBR.out)).mono ?_
  rw [HCR.out]
  rintro e wB ⟨AR, nR, cR, AQ, nQ, cQ, rfl, hvL, hvM, hb⟩
  have HRL := Aside0.mk (Kd.V_mono (ok' := fun k => (FP bx col k ∧ k < w.heap.size) ∨ wA.heap.size ≤ k) hvL (fun k hk => hk.imp id (fun h => Nat.le_trans HBR.out.size h)))
  have HRM := Aside0.mk (Kd.V_mono (ok' := fun k => (FP bx col k ∧ k < w.heap.size) ∨ wA.heap.size ≤ k) hvM (fun k hk => hk.imp id (fun h => Nat.le_trans HBR.out.size h)))
  have HBB := Aside0.mk (below_step HBR.out hb)
  have HY6 := Aside0.mk (blk_below HA6.out HBB.out)
  have HY10 := Aside0.mk (blk_below HA10.out HBB.out)
  have z0 : wB.cell? ⟨b10, 0, none⟩ = some (.slice AL nL cL) := blk_cell HY10.out 0
  have z1 : wB.cell? ⟨b10, 1, none⟩ = some (.int .i64 lv) := blk_cell HY10.out 1
  have z2 : wB.cell? ⟨b10, 2, none⟩ = some (.slice AM nM cM) := blk_cell HY10.out 2
  have y0 := blk_frozen HY10.out 0
  have y1 := blk_frozen HY10.out 1
  have y2 := blk_frozen HY10.out 2
  have n6 : b6 ≠ b10 := N6.out
  have n6' : b10 ≠ b6 := Ne.symm N6.out
  have u0 : wB.cell? ⟨b6, 0, none⟩ = some (.slice none 0 0) := blk_cell HY6.out 0
  have u1 : wB.cell? ⟨b6, 1, none⟩ = some (.int .i64 0) := blk_cell HY6.out 1
  have u2 : wB.cell? ⟨b6, 2, none⟩ = some (.slice none 0 0) := blk_cell HY6.out 2
  have s0 := blk_frozen HY6.out 0
  have s1 := blk_frozen HY6.out 1
  have s2 := blk_frozen HY6.out 2
  have hSB : wB.cell? ⟨b4, 0, none⟩ = some (.slice AL nL cL) ∧ wB.cell? ⟨b4, 1, none⟩ = some (.int .i64 lv) ∧ wB.cell? ⟨b4, 2, none⟩ = some (.slice AM nM cM) ∧ wB.cell? ⟨b5, 2, none⟩ = some (.string x0) ∧ wB.cell? ⟨b5, 3, none⟩ = some (.int .i64 x1) ∧ wB.cell? ⟨b5, 4, none⟩ = some (.int .i64 x2) ∧ wB.cell? ⟨b5, 5, none⟩ = some (.int .i64 x3) ∧ wB.cell? ⟨b5, 6, none⟩ = some (.int .i32 x4) ∧ wB.cell? ⟨b5, 7, none⟩ = some (.int .i64 x5) ∧ wB.cell? ⟨b5, 8, none⟩ = some (.bool x6) ∧ wB.cell? ⟨b5, 9, none⟩ = some (.slice A7 n7 c7) := ⟨blk_cell (blk_below HR4.out hb) 0, blk_cell (blk_below HR4.out hb) 1, blk_cell (blk_below HR4.out hb) 2, blk_cell (blk_below HR5.out hb) 2, blk_cell (blk_below HR5.out hb) 3, blk_cell (blk_below HR5.out hb) 4, blk_cell (blk_below HR5.out hb) 5, blk_cell (blk_below HR5.out hb) 6, blk_cell (blk_below HR5.out hb) 7, blk_cell (blk_below HR5.out hb) 8, blk_cell (blk_below HR5.out hb) 9⟩
  clear hvL hvM hb
  go_wp2
  refine hK.out _ _ hSB (fun hHeld => ?_)
  clear hK
  try simp only [Act.put, List.setIfInBounds_toArray, List.set_cons_zero, List.set_cons_succ]
  refine C.tk_take (i := 5) (v := ?_) (by kernel_rfl) (by kernel_rfl) (by kernel_rfl) (fun oi hoi => ?_) rfl
  rotate_left
  simp only [List.getElem?_toArray, List.getElem?_cons_succ, List.getElem?_cons_zero] at hoi
  cases hoi
  refine ⟨fun _ _ _ h => h, Or.inl ⟨by rfl, ?_⟩, by assumption, ?_⟩
  · (intro w hSw; (try dsimp only at hSw); go_simp; all_goals with_reducible rfl)
  try simp only [Act.put, List.setIfInBounds_toArray, List.set_cons_zero, List.set_cons_succ]
  refine C.tk_take (i := 6) (v := ?_) (by kernel_rfl) (by kernel_rfl) (by kernel_rfl) (fun oi hoi => ?_) rfl
  rotate_left
  simp only [List.getElem?_toArray, List.getElem?_cons_succ, List.getElem?_cons_zero] at hoi
  cases hoi
  refine ⟨fun _ _ _ h => h, Or.inl ⟨by rfl, ?_⟩, by assumption, ?_⟩
  · (intro w hSw; (try dsimp only at hSw); go_simp; all_goals with_reducible rfl)
  try simp only [Act.put, List.setIfInBounds_toArray, List.set_cons_zero, List.set_cons_succ]
  refine C.tk_take (i := 7) (v := ?_) (by kernel_rfl) (by kernel_rfl) (by kernel_rfl) (fun oi hoi => ?_) rfl
  rotate_left
  simp only [List.getElem?_toArray, List.getElem?_cons_succ, List.getElem?_cons_zero] at hoi
  cases hoi
  refine ⟨fun _ _ _ h => h, Or.inl ⟨by rfl, ?_⟩, by assumption, ?_⟩
  · (intro w hSw; (try dsimp only at hSw); go_simp; all_goals with_reducible rfl)
  try simp only [Act.put, List.setIfInBounds_toArray, List.set_cons_zero, List.set_cons_succ]
  refine wpAnyH_ready (rs := [8]) (by kernel_rfl) (by simp) ?_
  refine AllReadyH.cons rfl (fun K hK => ?_) AllReadyH.nil
  rw [if_pos (by rfl)]
  go_simp
  refine hK.out _ _ ⟨do_cell (hSB.1) (show b4 ≠ b10 from N4b.out) _ _ _, do_cell (hSB.2.1) (show b4 ≠ b10 from N4b.out) _ _ _, do_cell (hSB.2.2.1) (show b4 ≠ b10 from N4b.out) _ _ _, do_cell (hSB.2.2.2.1) (show b5 ≠ b10 from N5b.out) _ _ _, do_cell (hSB.2.2.2.2.1) (show b5 ≠ b10 from N5b.out) _ _ _, do_cell (hSB.2.2.2.2.2.1) (show b5 ≠ b10 from N5b.out) _ _ _, do_cell (hSB.2.2.2.2.2.2.1) (show b5 ≠ b10 from N5b.out) _ _ _, do_cell (hSB.2.2.2.2.2.2.2.1) (show b5 ≠ b10 from N5b.out) _ _ _, do_cell (hSB.2.2.2.2.2.2.2.2.1) (show b5 ≠ b10 from N5b.out) _ _ _, do_cell (hSB.2.2.2.2.2.2.2.2.2.1) (show b5 ≠ b10 from N5b.out) _ _ _, do_cell (hSB.2.2.2.2.2.2.2.2.2.2) (show b5 ≠ b10 from N5b.out) _ _ _⟩ (fun hHeld => ?_)
  clear hK
  try simp only [Act.put, List.setIfInBounds_toArray, List.set_cons_zero, List.set_cons_succ]
  refine C.tk_take (i := 9) (v := ?_) (by kernel_rfl) (by kernel_rfl) (by kernel_rfl) (fun oi hoi => ?_) rfl
  rotate_left
  simp only [List.getElem?_toArray, List.getElem?_cons_succ, List.getElem?_cons_zero] at hoi
  cases hoi
  refine ⟨fun _ _ _ h => h, Or.inl ⟨by rfl, ?_⟩, by assumption, ?_⟩
  · (intro w hSw; (try dsimp only at hSw); go_simp; all_goals with_reducible rfl)
  try simp only [Act.put, List.setIfInBounds_toArray, List.set_cons_zero, List.set_cons_succ]
  refine wpAnyH_done (by kernel_rfl) ?_ _
  go_wp2
  refine bodyPost_ret (results_list (rs := [.cell 6 31, .tmp 7]) rfl (by simp) (.cell b6 31 #[.slice AR nR cR, .int .i64 r2, .slice AQ nQ cQ] (0, 0) _ rfl (sc_put3 (sc_far3 HY6.out N6.out _ _ _) _ _ _) Try.underlying31 rfl (by kernel_rfl) (.tmp .nil))) rfl ?_
  exact do_end HS.out HBS.out HIA.out HKA.out HBB.out HG6.out HG10.out (Nat.lt_of_lt_of_le HL14.out.2.2.1 HSZ.out) (Nat.lt_of_lt_of_le HL14.out.2.2.2 HSZ.out) (HCZ.out b6 HL14.out.2.2.1 HZ.out.2.2.1) (HCZ.out b10 HL14.out.2.2.2 HZ.out.2.2.2) HRL.out HRM.out HST.out _ _ _ _ _ _
set_option maxRecDepth 100000 in
set_option maxHeartbeats 4000000 in
theorem sc_do_3 {bx : List Nat} {N base : Nat} {w : World} {g : Nat} {col : Nat → Nat} {D M : List (List SO)} {L : List RO} {lv : Int} {Ms : List (List RO)} {vL vM : Value} (h : St bx N base w g col D M L lv Ms vL vM) (hN : N ≤ 999) (kd n : Int) (x : SO) (v7 v2 : Value) (l : List S71)
    (h7 : Kd.V k69 69 w 0 (FP bx col) v7 x.f7) (h2 : Kd.V k71 71 w 0 (FP bx col) v2 l) (hx7 : x.f7.length ≤ 1048576) (hl : l.length ≤ 1048576) (hle : ∀ e ∈ l, e.f4.length ≤ 1048576) (hk : kd = 3) :
    Calls Try.prog 21 #[.pointer (some ⟨g, 0, none⟩), .agg #[vL, .int .i64 lv, vM], .agg #[.int .i64 kd, .int .i64 n, .string x.f0, .int .i64 x.f1, .int .i64 x.f2, .int .i64 x.f3, .int .i32 x.f4, .int .i64 x.f5, .bool x.f6, v7, v2]] w (DoPost bx (N + 1) base w g col) := by
  obtain ⟨AL, nL, cL, rfl⟩ := V_slc h.vl
  obtain ⟨AM, nM, cM, rfl⟩ := V_slc h.vm
  obtain ⟨A7, n7, c7, rfl⟩ := V_slc h7
  obtain ⟨A2, n2, c2, rfl⟩ := V_slc h2
  obtain ⟨x0, x1, x2, x3, x4, x5, x6, x7⟩ := x
  dsimp only at h7 hx7 ⊢
  have HS := Aside0.mk h
  have HVL := Aside0.mk (Kd.V_bound h.vl); have HVM := Aside0.mk (Kd.V_bound h.vm); have HV7 := Aside0.mk (Kd.V_bound h7); have HV2 := Aside0.mk (Kd.V_bound h2)
  have HNN := Aside0.mk hN; have HX7 := Aside0.mk hx7; have HLL := Aside0.mk hl; have HLE := Aside0.mk hle
  have hsl := h.is.len
  have HSL := Aside0.mk hsl
  have hlv := h.sim.lv
  have HLV := Aside0.mk (show 0 ≤ lv ∧ lv ≤ 64 by omega)
  have HDQ := Aside0.mk (show (D.getD (D.length - 1) []).length ≤ 4096 by
    rw [List.getD_eq_getElem?_getD, List.getElem?_eq_getElem (by omega)]
    exact hsl.2.2.2 _ (List.getElem_mem _))
  have HBS := Aside0.mk (show base ≤ w.heap.size by have := h.is.base; omega)
  have HB := Aside0.mk (Below.refl w.heap.size w)
  clear h h7 h2 hx7 hl hle hN hsl hlv
  obtain ⟨D', code, r, hcr, hst, hstep⟩ := step_Change HS.out.sim HSL.out.2.2.1 HS.out.par n (⟨x0, x1, x2, x3, x4, x5, x6, x7⟩ : SO) HX7.out
  obtain ⟨r1, r2, r3⟩ := r
  have HCR := Aside0.mk (show rf_change L lv Ms n (sc_r (⟨x0, x1, x2, x3, x4, x5, x6, x7⟩ : SO)) = (r1, r2, r3, code) from hcr); have HST := Aside0.mk hst; have HSTEP := Aside0.mk hstep
  clear hcr hst hstep
  subst hk
  go_enter Try.func21, Try.ntmps21
  go_wp2_with (first
    | ((with_reducible refine gate_dst (N := 4) rfl ?_); refine box_event ?hg (N := 4) ?hd (cs := #[.slice AL nL cL, .int .i64 lv, .slice AM nM cM]) (t := 31) ?hr ?_; (case hd => rfl); (case hg => rfl); (case hr => first | (go_simp; done) | (go_simp; rfl)); intro b4 hgx w4 hbox hb; have HB4 := Aside0.mk (below_step HB.out hb); have HX4 := Aside0.mk hbox; have HG4 := Aside0.mk (show w.heap.size ≤ b4 by rw [hgx]; exact HB.out.size); skip; clear hgx hbox hb)
    | ((with_reducible refine gate_dst (N := 5) rfl ?_); refine box_event ?hg (N := 5) ?hd (cs := #[.int .i64 3, .int .i64 n, .string x0, .int .i64 x1, .int .i64 x2, .int .i64 x3, .int .i32 x4, .int .i64 x5, .bool x6, .slice A7 n7 c7, .slice A2 n2 c2]) (t := 57) ?hr ?_; (case hd => rfl); (case hg => rfl); (case hr => first | (go_simp; done) | (go_simp; rfl)); intro b5 hgx w5 hbox hb; have HB5 := Aside0.mk (below_step HB4.out hb); have HX5 := Aside0.mk hbox; have HG5 := Aside0.mk (show w.heap.size ≤ b5 by rw [hgx]; exact HB4.out.size); have HX4b := Aside0.mk (blk_below HX4.out hb); have N54 := Aside0.mk (show b4 ≠ b5 from fun e => by have := blk_lt HX4.out; omega); clear hgx hbox hb)
    | ((with_reducible refine gate_dst (N := 6) rfl ?_); refine box_event ?hg (N := 6) ?hd (cs := #[.slice none 0 0, .int .i64 0, .slice none 0 0]) (t := 31) ?hr ?_; (case hd => rfl); (case hg => rfl); (case hr => first | (go_simp; done) | (go_simp; rfl)); intro b6 hgx w6 hbox hb; have HB6 := Aside0.mk (below_step HB5.out hb); have HX6 := Aside0.mk hbox; have HG6 := Aside0.mk (show w.heap.size ≤ b6 by rw [hgx]; exact HB5.out.size); have HX4c := Aside0.mk (blk_below HX4b.out hb); have HX5c := Aside0.mk (blk_below HX5.out hb); have hq4 := HX4c.out; have e0 : w6.cell? ⟨b4, 0, none⟩ = some (.slice AL nL cL) := blk_cell hq4 0; have e1 : w6.cell? ⟨b4, 1, none⟩ = some (.int .i64 lv) := blk_cell hq4 1; have e2 : w6.cell? ⟨b4, 2, none⟩ = some (.slice AM nM cM) := blk_cell hq4 2; clear hgx hbox hb)
    | ((with_reducible refine gate_dst (N := 10) rfl ?_); refine box_event ?hg (N := 10) ?hd (cs := #[.slice none 0 0, .int .i64 0, .slice none 0 0]) (t := 31) ?hr ?_; (case hd => rfl); (case hg => rfl); (case hr => first | (go_simp; done) | (go_simp; rfl)); intro b10 hgx w10 hbox hb; have HB10 := Aside0.mk (below_step HB6.out hb); have HX10 := Aside0.mk hbox; have HG10 := Aside0.mk (show w.heap.size ≤ b10 by rw [hgx]; exact HB6.out.size); have HX4d := Aside0.mk (blk_below HX4c.out hb); have HX5d := Aside0.mk (blk_below HX5c.out hb); have HX6d := Aside0.mk (blk_below HX6.out hb); have n4 : b4 ≠ b10 := (fun e => by have := blk_lt HX4c.out; omega); have n5 : b5 ≠ b10 := (fun e => by have := blk_lt HX5c.out; omega); have n6 : b6 ≠ b10 := (fun e => by have := blk_lt HX6.out; omega); have N4 := Aside0.mk n4; have N5 := Aside0.mk n5; have N6 := Aside0.mk n6; have hq5 := HX5d.out; have k0 : w10.cell? ⟨b5, 0, none⟩ = some (.int .i64 3) := blk_cell hq5 0; have k1 : w10.cell? ⟨b5, 1, none⟩ = some (.int .i64 n) := blk_cell hq5 1; have k2 : w10.cell? ⟨b5, 2, none⟩ = some (.string x0) := blk_cell hq5 2; have k3 : w10.cell? ⟨b5, 3, none⟩ = some (.int .i64 x1) := blk_cell hq5 3; have k4 : w10.cell? ⟨b5, 4, none⟩ = some (.int .i64 x2) := blk_cell hq5 4; have k5 : w10.cell? ⟨b5, 5, none⟩ = some (.int .i64 x3) := blk_cell hq5 5; have k6 : w10.cell? ⟨b5, 6, none⟩ = some (.int .i32 x4) := blk_cell hq5 6; have k7 : w10.cell? ⟨b5, 7, none⟩ = some (.int .i64 x5) := blk_cell hq5 7; have k8 : w10.cell? ⟨b5, 8, none⟩ = some (.bool x6) := blk_cell hq5 8; have k9 : w10.cell? ⟨b5, 9, none⟩ = some (.slice A7 n7 c7) := blk_cell hq5 9; have k10 : w10.cell? ⟨b5, 10, none⟩ = some (.slice A2 n2 c2) := blk_cell hq5 10; have hq4d := HX4d.out; have d0 : w10.cell? ⟨b4, 0, none⟩ = some (.slice AL nL cL) := blk_cell hq4d 0; have d1 : w10.cell? ⟨b4, 1, none⟩ = some (.int .i64 lv) := blk_cell hq4d 1; have d2 : w10.cell? ⟨b4, 2, none⟩ = some (.slice AM nM cM) := blk_cell hq4d 2; have z0 : w10.cell? ⟨b10, 0, none⟩ = some (.slice none 0 0) := blk_cell hbox 0; have z1 : w10.cell? ⟨b10, 1, none⟩ = some (.int .i64 0) := blk_cell hbox 1; have z2 : w10.cell? ⟨b10, 2, none⟩ = some (.slice none 0 0) := blk_cell hbox 2; have y0 := blk_frozen hbox 0; have y1 := blk_frozen hbox 1; have y2 := blk_frozen hbox 2; clear hq5 hq4d; clear hgx hbox hb))
  obtain ⟨W1, hW1⟩ : ∃ W1, (((w10.setCell ⟨b10, 0, none⟩ (.slice AL nL cL)).setCell ⟨b10, 1, none⟩ (.int .i64 lv)).setCell ⟨b10, 2, none⟩ (.slice AM nM cM)) = W1 := ⟨_, rfl⟩
  have HB1 := Aside0.mk (show Below w.heap.size w W1 by rw [← hW1]; exact sc_put3b HB10.out HG10.out _ _ _)
  have hx4 : W1.heap[b4]? = some (.cells #[.slice AL nL cL, .int .i64 lv, .slice AM nM cM] 31 (0, 0)) := by rw [← hW1]; exact sc_far3 HX4d.out N4.out _ _ _
  have hx5 : W1.heap[b5]? = some (.cells #[.int .i64 3, .int .i64 n, .string x0, .int .i64 x1, .int .i64 x2, .int .i64 x3, .int .i32 x4, .int .i64 x5, .bool x6, .slice A7 n7 c7, .slice A2 n2 c2] 57 (0, 0)) := by rw [← hW1]; exact sc_far3 HX5d.out N5.out _ _ _
  have hx6 : W1.heap[b6]? = some (.cells #[.slice none 0 0, .int .i64 0, .slice none 0 0] 31 (0, 0)) := by rw [← hW1]; exact sc_far3 HX6d.out N6.out _ _ _
  have hx10 : W1.heap[b10]? = some (.cells #[.slice AL nL cL, .int .i64 lv, .slice AM nM cM] 31 (0, 0)) := by rw [← hW1]; exact sc_put3 HX10.out _ _ _
  rw [hW1]
  clear hW1 HX4 HX4b HX4c HX4d HX5 HX5c HX5d HX6 HX6d HX10 k0 k1 k2 k3 k4 k5 k6 k7 k8 k9 k10 e0 e1 e2 d0 d1 d2 z0 z1 z2 y0 y1 y2 n4 n5 n6 HB4 HB5 HB6 HB10 hq4
  have N4b := N4; have N5b := N5; clear N4 N5
  have HX4 := Aside0.mk hx4; have HX5 := Aside0.mk hx5; have HX6 := Aside0.mk hx6; have HX10 := Aside0.mk hx10
  have HI1 := Aside0.mk (HS.out.is.below HB1.out)
  have HZ := Aside0.mk (show col b4 = 0 ∧ col b5 = 0 ∧ col b6 = 0 ∧ col b10 = 0 from ⟨HS.out.is.new _ HG4.out, HS.out.is.new _ HG5.out, HS.out.is.new _ HG6.out, HS.out.is.new _ HG10.out⟩)
  have o0 : W1.cell? ⟨b5, 0, none⟩ = some (.int .i64 3) := blk_cell hx5 0; have o1 : W1.cell? ⟨b5, 1, none⟩ = some (.int .i64 n) := blk_cell hx5 1; have o2 : W1.cell? ⟨b5, 2, none⟩ = some (.string x0) := blk_cell hx5 2; have o3 : W1.cell? ⟨b5, 3, none⟩ = some (.int .i64 x1) := blk_cell hx5 3; have o4 : W1.cell? ⟨b5, 4, none⟩ = some (.int .i64 x2) := blk_cell hx5 4; have o5 : W1.cell? ⟨b5, 5, none⟩ = some (.int .i64 x3) := blk_cell hx5 5; have o6 : W1.cell? ⟨b5, 6, none⟩ = some (.int .i32 x4) := blk_cell hx5 6; have o7 : W1.cell? ⟨b5, 7, none⟩ = some (.int .i64 x5) := blk_cell hx5 7; have o8 : W1.cell? ⟨b5, 8, none⟩ = some (.bool x6) := blk_cell hx5 8; have o9 : W1.cell? ⟨b5, 9, none⟩ = some (.slice A7 n7 c7) := blk_cell hx5 9; have o10 : W1.cell? ⟨b5, 10, none⟩ = some (.slice A2 n2 c2) := blk_cell hx5 10
  clear hx4 hx5 hx6 hx10
  go_wp2_with (go_at_call 33; go_loud (refine (HSTEP.out base _ g col A7 n7 c7 HI1.out (Kd.V_reads' (Kd.V_below HV7.out HB1.out)).2.2 (Kd.V_reads' HV7.out).1.symm (Kd.V_reads' HV7.out).2.1).mono ?_; rintro e wA ⟨rfl, cA, hI, hKx⟩; have HCZ := Aside0.mk (show ∀ b, b < W1.heap.size → col b = 0 → cA b = 0 from fun b hb h0 => by rw [hKx.ext b hb]; exact h0); have hK := hKx; have HIA := Aside0.mk hI; have HKA := Aside0.mk ((ScK.of_below HB1.out HBS.out).trans hK); have HA4 := Aside0.mk ((hK.keep b4 (blk_lt HX4.out) HZ.out.1).trans HX4.out); have HA5 := Aside0.mk ((hK.keep b5 (blk_lt HX5.out) HZ.out.2.1).trans HX5.out); have HA6 := Aside0.mk ((hK.keep b6 (blk_lt HX6.out) HZ.out.2.2.1).trans HX6.out); have HA10 := Aside0.mk ((hK.keep b10 (blk_lt HX10.out) HZ.out.2.2.2).trans HX10.out); have HSZ := Aside0.mk (show W1.heap.size ≤ wA.heap.size from hK.below.size); have HL14 := Aside0.mk (show b4 < W1.heap.size ∧ b5 < W1.heap.size ∧ b6 < W1.heap.size ∧ b10 < W1.heap.size from ⟨blk_lt HX4.out, blk_lt HX5.out, blk_lt HX6.out, blk_lt HX10.out⟩); have HVLA := Aside0.mk (Kd.V_step (Kd.V_below HVL.out HB1.out) (fun k h0 hlt => hK.keep k (Nat.lt_of_lt_of_le h0.2 HB1.out.size) h0.1.1)); have HVMA := Aside0.mk (Kd.V_step (Kd.V_below HVM.out HB1.out) (fun k h0 hlt => hK.keep k (Nat.lt_of_lt_of_le h0.2 HB1.out.size) h0.1.1)); have HV7A := Aside0.mk (Kd.V_step (Kd.V_below HV7.out HB1.out) (fun k h0 hlt => hK.keep k (Nat.lt_of_lt_of_le h0.2 HB1.out.size) h0.1.1)); have HV2A := Aside0.mk (Kd.V_step (Kd.V_below HV2.out HB1.out) (fun k h0 hlt => hK.keep k (Nat.lt_of_lt_of_le h0.2 HB1.out.size) h0.1.1)); have e0 : wA.cell? ⟨b4, 0, none⟩ = some (.slice AL nL cL) := blk_cell HA4.out 0; have e1 : wA.cell? ⟨b4, 1, none⟩ = some (.int .i64 lv) := blk_cell HA4.out 1; have e2 : wA.cell? ⟨b4, 2, none⟩ = some (.slice AM nM cM) := blk_cell HA4.out 2; have a0 : wA.cell? ⟨b5, 0, none⟩ = some (.int .i64 3) := blk_cell HA5.out 0; have a1 : wA.cell? ⟨b5, 1, none⟩ = some (.int .i64 n) := blk_cell HA5.out 1; have a2 : wA.cell? ⟨b5, 2, none⟩ = some (.string x0) := blk_cell HA5.out 2; have a3 : wA.cell? ⟨b5, 3, none⟩ = some (.int .i64 x1) := blk_cell HA5.out 3; have a4 : wA.cell? ⟨b5, 4, none⟩ = some (.int .i64 x2) := blk_cell HA5.out 4; have a5 : wA.cell? ⟨b5, 5, none⟩ = some (.int .i64 x3) := blk_cell HA5.out 5; have a6 : wA.cell? ⟨b5, 6, none⟩ = some (.int .i32 x4) := blk_cell HA5.out 6; have a7 : wA.cell? ⟨b5, 7, none⟩ = some (.int .i64 x5) := blk_cell HA5.out 7; have a8 : wA.cell? ⟨b5, 8, none⟩ = some (.bool x6) := blk_cell HA5.out 8; have a9 : wA.cell? ⟨b5, 9, none⟩ = some (.slice A7 n7 c7) := blk_cell HA5.out 9; have a10 : wA.cell? ⟨b5, 10, none⟩ = some (.slice A2 n2 c2) := blk_cell HA5.out 10; clear hI hK o0 o1 o2 o3 o4 o5 o6 o7 o8 o9 o10; clear hKx))
  refine wp_region_held_drew (S := fun w' => w'.cell? ⟨b4, 0, none⟩ = some (.slice AL nL cL) ∧ w'.cell? ⟨b4, 1, none⟩ = some (.int .i64 lv) ∧ w'.cell? ⟨b4, 2, none⟩ = some (.slice AM nM cM) ∧ w'.cell? ⟨b5, 1, none⟩ = some (.int .i64 n) ∧ w'.cell? ⟨b5, 2, none⟩ = some (.string x0) ∧ w'.cell? ⟨b5, 3, none⟩ = some (.int .i64 x1) ∧ w'.cell? ⟨b5, 4, none⟩ = some (.int .i64 x2) ∧ w'.cell? ⟨b5, 5, none⟩ = some (.int .i64 x3) ∧ w'.cell? ⟨b5, 6, none⟩ = some (.int .i32 x4) ∧ w'.cell? ⟨b5, 7, none⟩ = some (.int .i64 x5) ∧ w'.cell? ⟨b5, 8, none⟩ = some (.bool x6) ∧ w'.cell? ⟨b5, 9, none⟩ = some (.slice A7 n7 c7)) (by kernel_rfl) (show wA.drew.cell? ⟨b4, 0, none⟩ = some (.slice AL nL cL) ∧ wA.drew.cell? ⟨b4, 1, none⟩ = some (.int .i64 lv) ∧ wA.drew.cell? ⟨b4, 2, none⟩ = some (.slice AM nM cM) ∧ wA.drew.cell? ⟨b5, 1, none⟩ = some (.int .i64 n) ∧ wA.drew.cell? ⟨b5, 2, none⟩ = some (.string x0) ∧ wA.drew.cell? ⟨b5, 3, none⟩ = some (.int .i64 x1) ∧ wA.drew.cell? ⟨b5, 4, none⟩ = some (.int .i64 x2) ∧ wA.drew.cell? ⟨b5, 5, none⟩ = some (.int .i64 x3) ∧ wA.drew.cell? ⟨b5, 6, none⟩ = some (.int .i32 x4) ∧ wA.drew.cell? ⟨b5, 7, none⟩ = some (.int .i64 x5) ∧ wA.drew.cell? ⟨b5, 8, none⟩ = some (.bool x6) ∧ wA.drew.cell? ⟨b5, 9, none⟩ = some (.slice A7 n7 c7) from ⟨blk_cell (blk_drew HA4.out) 0, blk_cell (blk_drew HA4.out) 1, blk_cell (blk_drew HA4.out) 2, blk_cell (blk_drew HA5.out) 1, blk_cell (blk_drew HA5.out) 2, blk_cell (blk_drew HA5.out) 3, blk_cell (blk_drew HA5.out) 4, blk_cell (blk_drew HA5.out) 5, blk_cell (blk_drew HA5.out) 6, blk_cell (blk_drew HA5.out) 7, blk_cell (blk_drew HA5.out) 8, blk_cell (blk_drew HA5.out) 9⟩) (fun hHeld => ?_)
  refine C.tk_take (i := 0) (v := ?_) (by kernel_rfl) (by kernel_rfl) (by kernel_rfl) (fun oi hoi => ?_) rfl
  rotate_left
  simp only [List.getElem?_toArray, List.getElem?_cons_succ, List.getElem?_cons_zero] at hoi
  cases hoi
  refine ⟨fun _ _ _ h => h, Or.inl ⟨by rfl, ?_⟩, by assumption, ?_⟩
  · (intro w hSw; (try dsimp only at hSw); go_simp; all_goals with_reducible rfl)
  try simp only [Act.put, List.setIfInBounds_toArray, List.set_cons_zero, List.set_cons_succ]
  refine C.tk_take (i := 1) (v := ?_) (by kernel_rfl) (by kernel_rfl) (by kernel_rfl) (fun oi hoi => ?_) rfl
  rotate_left
  simp only [List.getElem?_toArray, List.getElem?_cons_succ, List.getElem?_cons_zero] at hoi
  cases hoi
  refine ⟨fun _ _ _ h => h, Or.inl ⟨by rfl, ?_⟩, by assumption, ?_⟩
  · (intro w hSw; (try dsimp only at hSw); go_simp; all_goals with_reducible rfl)
  try simp only [Act.put, List.setIfInBounds_toArray, List.set_cons_zero, List.set_cons_succ]
  refine C.tk_take (i := 2) (v := ?_) (by kernel_rfl) (by kernel_rfl) (by kernel_rfl) (fun oi hoi => ?_) rfl
  rotate_left
  simp only [List.getElem?_toArray, List.getElem?_cons_succ, List.getElem?_cons_zero] at hoi
  cases hoi
  refine ⟨fun _ _ _ h => h, Or.inl ⟨by rfl, ?_⟩, by assumption, ?_⟩
  · (intro w hSw; (try dsimp only at hSw); go_simp; all_goals with_reducible rfl)
  try simp only [Act.put, List.setIfInBounds_toArray, List.set_cons_zero, List.set_cons_succ]
  refine C.tk_take (i := 3) (v := ?_) (by kernel_rfl) (by kernel_rfl) (by kernel_rfl) (fun oi hoi => ?_) rfl
  rotate_left
  simp only [List.getElem?_toArray, List.getElem?_cons_succ, List.getElem?_cons_zero] at hoi
  cases hoi
  refine ⟨fun _ _ _ h => h, Or.inl ⟨by rfl, ?_⟩, by assumption, ?_⟩
  · (intro w hSw; (try dsimp only at hSw); go_simp; all_goals with_reducible rfl)
  try simp only [Act.put, List.setIfInBounds_toArray, List.set_cons_zero, List.set_cons_succ]
  refine C.tk_take (i := 4) (v := ?_) (by kernel_rfl) (by kernel_rfl) (by kernel_rfl) (fun oi hoi => ?_) rfl
  rotate_left
  simp only [List.getElem?_toArray, List.getElem?_cons_succ, List.getElem?_cons_zero] at hoi
  cases hoi
  refine ⟨fun _ _ _ h => h, Or.inl ⟨by rfl, ?_⟩, by assumption, ?_⟩
  · (intro w hSw; (try dsimp only at hSw); go_simp; all_goals with_reducible rfl)
  try simp only [Act.put, List.setIfInBounds_toArray, List.set_cons_zero, List.set_cons_succ]
  refine wpAnyH_ready (rs := [5]) (by kernel_rfl) (by simp) ?_
  refine AllReadyH.cons rfl (fun K hK => ?_) AllReadyH.nil
  rw [if_pos (by rfl)]
  go_simp
  go_at_call 32
  refine (sc_ref_calls x0 x1 x2 x3 x4 x5 x6 A7 n7 c7 _).mono ?_
  rintro e wR ⟨rfl, hb⟩
  have hbR := below_step (below_drew (Below.refl wA.heap.size wA)) hb
  have HBR := Aside0.mk hbR
  have HR4 := Aside0.mk (blk_below HA4.out hbR)
  have HR5 := Aside0.mk (blk_below HA5.out hbR)
  have hSR : wR.cell? ⟨b4, 0, none⟩ = some (.slice AL nL cL) ∧ wR.cell? ⟨b4, 1, none⟩ = some (.int .i64 lv) ∧ wR.cell? ⟨b4, 2, none⟩ = some (.slice AM nM cM) ∧ wR.cell? ⟨b5, 1, none⟩ = some (.int .i64 n) ∧ wR.cell? ⟨b5, 2, none⟩ = some (.string x0) ∧ wR.cell? ⟨b5, 3, none⟩ = some (.int .i64 x1) ∧ wR.cell? ⟨b5, 4, none⟩ = some (.int .i64 x2) ∧ wR.cell? ⟨b5, 5, none⟩ = some (.int .i64 x3) ∧ wR.cell? ⟨b5, 6, none⟩ = some (.int .i32 x4) ∧ wR.cell? ⟨b5, 7, none⟩ = some (.int .i64 x5) ∧ wR.cell? ⟨b5, 8, none⟩ = some (.bool x6) ∧ wR.cell? ⟨b5, 9, none⟩ = some (.slice A7 n7 c7) := ⟨blk_cell HR4.out 0, blk_cell HR4.out 1, blk_cell HR4.out 2, blk_cell HR5.out 1, blk_cell HR5.out 2, blk_cell HR5.out 3, blk_cell HR5.out 4, blk_cell HR5.out 5, blk_cell HR5.out 6, blk_cell HR5.out 7, blk_cell HR5.out 8, blk_cell HR5.out 9⟩
  clear hb hbR
  go_wp2
  refine hK.out _ _ hSR (fun hHeld => ?_)
  clear hK
  try simp only [Act.put, List.setIfInBounds_toArray, List.set_cons_zero, List.set_cons_succ]
  refine wpAnyH_ready (rs := [6]) (by kernel_rfl) (by simp) ?_
  refine AllReadyH.cons rfl (fun K hK => ?_) AllReadyH.nil
  rw [if_pos (by rfl)]
  go_simp
  go_at_call 34
  refine (rf_Change_calls (Kd.V_below HVLA.out HBR.out) (Kd.V_below HVMA.out HBR.out) (by have h1 := HS.out.len; have h2 := HNN.out; omega) n (sc_r (⟨x0, x1, x2, x3, x4, x5, x6, x7⟩ : SO)) (Kd.V_below HV7A.out HBR.out)).mono ?_
  rw [HCR.out]
  rintro e wB ⟨AR, nR, cR, AQ, nQ, cQ, rfl, hvL, hvM, hb⟩
  have HRL := Aside0.mk (Kd.V_mono (ok' := fun k => (FP bx col k ∧ k < w.heap.size) ∨ wA.heap.size ≤ k) hvL (fun k hk => hk.imp id (fun h => Nat.le_trans HBR.out.size h)))
  have HRM := Aside0.mk (Kd.V_mono (ok' := fun k => (FP bx col k ∧ k < w.heap.size) ∨ wA.heap.size ≤ k) hvM (fun k hk => hk.imp id (fun h => Nat.le_trans HBR.out.size h)))
  have HBB := Aside0.mk (below_step HBR.out hb)
  have HY6 := Aside0.mk (blk_below HA6.out HBB.out)
  have HY10 := Aside0.mk (blk_below HA10.out HBB.out)
  have z0 : wB.cell? ⟨b10, 0, none⟩ = some (.slice AL nL cL) := blk_cell HY10.out 0
  have z1 : wB.cell? ⟨b10, 1, none⟩ = some (.int .i64 lv) := blk_cell HY10.out 1
  have z2 : wB.cell? ⟨b10, 2, none⟩ = some (.slice AM nM cM) := blk_cell HY10.out 2
  have y0 := blk_frozen HY10.out 0
  have y1 := blk_frozen HY10.out 1
  have y2 := blk_frozen HY10.out 2
  have n6 : b6 ≠ b10 := N6.out
  have n6' : b10 ≠ b6 := Ne.symm N6.out
  have u0 : wB.cell? ⟨b6, 0, none⟩ = some (.slice none 0 0) := blk_cell HY6.out 0
  have u1 : wB.cell? ⟨b6, 1, none⟩ = some (.int .i64 0) := blk_cell HY6.out 1
  have u2 : wB.cell? ⟨b6, 2, none⟩ = some (.slice none 0 0) := blk_cell HY6.out 2
  have s0 := blk_frozen HY6.out 0
  have s1 := blk_frozen HY6.out 1
  have s2 := blk_frozen HY6.out 2
  have hSB : wB.cell? ⟨b4, 0, none⟩ = some (.slice AL nL cL) ∧ wB.cell? ⟨b4, 1, none⟩ = some (.int .i64 lv) ∧ wB.cell? ⟨b4, 2, none⟩ = some (.slice AM nM cM) ∧ wB.cell? ⟨b5, 1, none⟩ = some (.int .i64 n) ∧ wB.cell? ⟨b5, 2, none⟩ = some (.string x0) ∧ wB.cell? ⟨b5, 3, none⟩ = some (.int .i64 x1) ∧ wB.cell? ⟨b5, 4, none⟩ = some (.int .i64 x2) ∧ wB.cell? ⟨b5, 5, none⟩ = some (.int .i64 x3) ∧ wB.cell? ⟨b5, 6, none⟩ = some (.int .i32 x4) ∧ wB.cell? ⟨b5, 7, none⟩ = some (.int .i64 x5) ∧ wB.cell? ⟨b5, 8, none⟩ = some (.bool x6) ∧ wB.cell? ⟨b5, 9, none⟩ = some (.slice A7 n7 c7) := ⟨blk_cell (blk_below HR4.out hb) 0, blk_cell (blk_below HR4.out hb) 1, blk_cell (blk_below HR4.out hb) 2, blk_cell (blk_below HR5.out hb) 1, blk_cell (blk_below HR5.out hb) 2, blk_cell (blk_below HR5.out hb) 3, blk_cell (blk_below HR5.out hb) 4, blk_cell (blk_below HR5.out hb) 5, blk_cell (blk_below HR5.out hb) 6, blk_cell (blk_below HR5.out hb) 7, blk_cell (blk_below HR5.out hb) 8, blk_cell (blk_below HR5.out hb) 9⟩
  clear hvL hvM hb
  go_wp2
  refine hK.out _ _ hSB (fun hHeld => ?_)
  clear hK
  try simp only [Act.put, List.setIfInBounds_toArray, List.set_cons_zero, List.set_cons_succ]
  refine C.tk_take (i := 7) (v := ?_) (by kernel_rfl) (by kernel_rfl) (by kernel_rfl) (fun oi hoi => ?_) rfl
  rotate_left
  simp only [List.getElem?_toArray, List.getElem?_cons_succ, List.getElem?_cons_zero] at hoi
  cases hoi
  refine ⟨fun _ _ _ h => h, Or.inl ⟨by rfl, ?_⟩, by assumption, ?_⟩
  · (intro w hSw; (try dsimp only at hSw); go_simp; all_goals with_reducible rfl)
  try simp only [Act.put, List.setIfInBounds_toArray, List.set_cons_zero, List.set_cons_succ]
  refine C.tk_take (i := 8) (v := ?_) (by kernel_rfl) (by kernel_rfl) (by kernel_rfl) (fun oi hoi => ?_) rfl
  rotate_left
  simp only [List.getElem?_toArray, List.getElem?_cons_succ, List.getElem?_cons_zero] at hoi
  cases hoi
  refine ⟨fun _ _ _ h => h, Or.inl ⟨by rfl, ?_⟩, by assumption, ?_⟩
  · (intro w hSw; (try dsimp only at hSw); go_simp; all_goals with_reducible rfl)
  try simp only [Act.put, List.setIfInBounds_toArray, List.set_cons_zero, List.set_cons_succ]
  refine C.tk_take (i := 9) (v := ?_) (by kernel_rfl) (by kernel_rfl) (by kernel_rfl) (fun oi hoi => ?_) rfl
  rotate_left
  simp only [List.getElem?_toArray, List.getElem?_cons_succ, List.getElem?_cons_zero] at hoi
  cases hoi
  refine ⟨fun _ _ _ h => h, Or.inl ⟨by rfl, ?_⟩, by assumption, ?_⟩
  · (intro w hSw; (try dsimp only at hSw); go_simp; all_goals with_reducible rfl)
  try simp only [Act.put, List.setIfInBounds_toArray, List.set_cons_zero, List.set_cons_succ]
  refine wpAnyH_ready (rs := [10]) (by kernel_rfl) (by simp) ?_
  refine AllReadyH.cons rfl (fun K hK => ?_) AllReadyH.nil
  rw [if_pos (by rfl)]
  go_simp
  refine hK.out _ _ ⟨do_cell (hSB.1) (show b4 ≠ b10 from N4b.out) _ _ _, do_cell (hSB.2.1) (show b4 ≠ b10 from N4b.out) _ _ _, do_cell (hSB.2.2.1) (show b4 ≠ b10 from N4b.out) _ _ _, do_cell (hSB.2.2.2.1) (show b5 ≠ b10 from N5b.out) _ _ _, do_cell (hSB.2.2.2.2.1) (show b5 ≠ b10 from N5b.out) _ _ _, do_cell (hSB.2.2.2.2.2.1) (show b5 ≠ b10 from N5b.out) _ _ _, do_cell (hSB.2.2.2.2.2.2.1) (show b5 ≠ b10 from N5b.out) _ _ _, do_cell (hSB.2.2.2.2.2.2.2.1) (show b5 ≠ b10 from N5b.out) _ _ _, do_cell (hSB.2.2.2.2.2.2.2.2.1) (show b5 ≠ b10 from N5b.out) _ _ _, do_cell (hSB.2.2.2.2.2.2.2.2.2.1) (show b5 ≠ b10 from N5b.out) _ _ _, do_cell (hSB.2.2.2.2.2.2.2.2.2.2.1) (show b5 ≠ b10 from N5b.out) _ _ _, do_cell (hSB.2.2.2.2.2.2.2.2.2.2.2) (show b5 ≠ b10 from N5b.out) _ _ _⟩ (fun hHeld => ?_)
  clear hK
  try simp only [Act.put, List.setIfInBounds_toArray, List.set_cons_zero, List.set_cons_succ]
  refine C.tk_take (i := 11) (v := ?_) (by kernel_rfl) (by kernel_rfl) (by kernel_rfl) (fun oi hoi => ?_) rfl
  rotate_left
  simp only [List.getElem?_toArray, List.getElem?_cons_succ, List.getElem?_cons_zero] at hoi
  cases hoi
  refine ⟨fun _ _ _ h => h, Or.inl ⟨by rfl, ?_⟩, by assumption, ?_⟩
  · (intro w hSw; (try dsimp only at hSw); go_simp; all_goals with_reducible rfl)
  try simp only [Act.put, List.setIfInBounds_toArray, List.set_cons_zero, List.set_cons_succ]
  refine wpAnyH_done (by kernel_rfl) ?_ _
  go_wp2
  refine bodyPost_ret (results_list (rs := [.cell 6 31, .tmp 7]) rfl (by simp) (.cell b6 31 #[.slice AR nR cR, .int .i64 r2, .slice AQ nQ cQ] (0, 0) _ rfl (sc_put3 (sc_far3 HY6.out N6.out _ _ _) _ _ _) Try.underlying31 rfl (by kernel_rfl) (.tmp .nil))) rfl ?_
  exact do_end HS.out HBS.out HIA.out HKA.out HBB.out HG6.out HG10.out (Nat.lt_of_lt_of_le HL14.out.2.2.1 HSZ.out) (Nat.lt_of_lt_of_le HL14.out.2.2.2 HSZ.out) (HCZ.out b6 HL14.out.2.2.1 HZ.out.2.2.1) (HCZ.out b10 HL14.out.2.2.2 HZ.out.2.2.2) HRL.out HRM.out HST.out _ _ _ _ _ _
theorem do_end1 {bx : List Nat} {N base : Nat} {w wA wB : World} {g : Nat} {col cA : Nat → Nat} {D M D' M' : List (List SO)} {L : List RO} {lv : Int} {Ms : List (List RO)} {vL vM : Value} (h : St bx N base w g col D M L lv Ms vL vM) (hbs : base ≤ w.heap.size)
    (hIA : IsS base wA g cA D' M') (hKA : ScK base w wA col cA) (hBB : Below wA.heap.size wA wB) {b6 : Nat} (g6 : w.heap.size ≤ b6) (l6 : b6 < wA.heap.size) (c6 : cA b6 = 0)
    {r : List RO × Int × List (List RO)} {A A' : Option Addr} {n c n' c' : Nat} (hL : Kd.V k46 46 wB 0 (fun k => (FP bx col k ∧ k < w.heap.size) ∨ wA.heap.size ≤ k) (.slice A n c) r.1) (hM : Kd.V (Kd.slice 46 k46) 28 wB 0 (fun k => (FP bx col k ∧ k < w.heap.size) ∨ wA.heap.size ≤ k) (.slice A' n' c') r.2.2)
    (hs : StepTo D' M' L r) (y3 y4 y5 : Value) :
    DoPost bx (N + 1) base w g col (.returned (.tuple #[.agg #[.slice A n c, .int .i64 r.2.1, .slice A' n' c'], .bool true])) (((wB.setCell ⟨b6, 0, none⟩ y3).setCell ⟨b6, 1, none⟩ y4).setCell ⟨b6, 2, none⟩ y5) := by
  have f6 : ∀ k, ((FP bx col k ∧ k < w.heap.size) ∨ wA.heap.size ≤ k) → k ≠ b6 := fun k hk e => by rcases hk with hk | hk <;> omega
  have hp : ∀ k, ((FP bx col k ∧ k < w.heap.size) ∨ wA.heap.size ≤ k) → FP bx cA k := fun k hk => by
    rcases hk with hk | hk
    · exact ⟨by rw [hKA.ext k hk.2]; exact hk.1.1, hk.1.2⟩
    · exact ⟨hIA.new k hk, fun hm => by have h1 := h.bxs k hm; have h2 := hKA.below.size; omega⟩
  have hI := (((hIA.below hBB).set0 ⟨b6, 0, none⟩ c6 y3).set0 ⟨b6, 1, none⟩ c6 y4).set0 ⟨b6, 2, none⟩ c6 y5
  have hK := (((hKA.trans (ScK.of_below hBB (by have := hIA.base; omega))).set (p := ⟨b6, 0, none⟩) hbs g6 y3).set (p := ⟨b6, 1, none⟩) hbs g6 y4).set (p := ⟨b6, 2, none⟩) hbs g6 y5
  exact ⟨D', M', r.1, r.2.1, r.2.2, A, n, c, A', n', c', cA, rfl, ⟨hI, Kd.V_mono (do_far hL f6 _ _ _) hp, Kd.V_mono (do_far hM f6 _ _ _) hp, hs.sim, Nat.le_trans hs.len (by have := h.len; omega), hs.par, fun b hb => by have h1 := h.bxs b hb; have h2 := hK.below.size; omega⟩, hK⟩
set_option maxRecDepth 100000 in
set_option maxHeartbeats 4000000 in
theorem sc_do_4 {bx : List Nat} {N base : Nat} {w : World} {g : Nat} {col : Nat → Nat} {D M : List (List SO)} {L : List RO} {lv : Int} {Ms : List (List RO)} {vL vM : Value} (h : St bx N base w g col D M L lv Ms vL vM) (hN : N ≤ 999) (kd n : Int) (x : SO) (v7 v2 : Value) (l : List S71)
    (h7 : Kd.V k69 69 w 0 (FP bx col) v7 x.f7) (h2 : Kd.V k71 71 w 0 (FP bx col) v2 l) (hx7 : x.f7.length ≤ 1048576) (hl : l.length ≤ 1048576) (hle : ∀ e ∈ l, e.f4.length ≤ 1048576) (hk : kd = 4) :
    Calls Try.prog 21 #[.pointer (some ⟨g, 0, none⟩), .agg #[vL, .int .i64 lv, vM], .agg #[.int .i64 kd, .int .i64 n, .string x.f0, .int .i64 x.f1, .int .i64 x.f2, .int .i64 x.f3, .int .i32 x.f4, .int .i64 x.f5, .bool x.f6, v7, v2]] w (DoPost bx (N + 1) base w g col) := by
  obtain ⟨AL, nL, cL, rfl⟩ := V_slc h.vl
  obtain ⟨AM, nM, cM, rfl⟩ := V_slc h.vm
  obtain ⟨A7, n7, c7, rfl⟩ := V_slc h7
  obtain ⟨A2, n2, c2, rfl⟩ := V_slc h2
  obtain ⟨x0, x1, x2, x3, x4, x5, x6, x7⟩ := x
  dsimp only at h7 hx7 ⊢
  have HS := Aside0.mk h
  have HVL := Aside0.mk (Kd.V_bound h.vl); have HVM := Aside0.mk (Kd.V_bound h.vm); have HV7 := Aside0.mk (Kd.V_bound h7); have HV2 := Aside0.mk (Kd.V_bound h2)
  have HNN := Aside0.mk hN; have HX7 := Aside0.mk hx7; have HLL := Aside0.mk hl; have HLE := Aside0.mk hle
  have hsl := h.is.len
  have HSL := Aside0.mk hsl
  have hlv := h.sim.lv
  have HLV := Aside0.mk (show 0 ≤ lv ∧ lv ≤ 64 by omega)
  have HDQ := Aside0.mk (show (D.getD (D.length - 1) []).length ≤ 4096 by
    rw [List.getD_eq_getElem?_getD, List.getElem?_eq_getElem (by omega)]
    exact hsl.2.2.2 _ (List.getElem_mem _))
  have HBS := Aside0.mk (show base ≤ w.heap.size by have := h.is.base; omega)
  have HB := Aside0.mk (Below.refl w.heap.size w)
  clear h h7 h2 hx7 hl hle hN hsl hlv
  obtain ⟨D', M', num, code, r, hcr, hst, hstep⟩ := step_Import HS.out.sim HDQ.out HSL.out.2.2.1 HS.out.par x0 l HLL.out HLE.out
  obtain ⟨r1, r2, r3⟩ := r
  have HCR := Aside0.mk (show rf_import L lv Ms x0 l = (r1, r2, r3, num, code) from hcr); have HST := Aside0.mk hst; have HSTEP := Aside0.mk hstep
  have HMS := Aside0.mk (show Ms.length ≤ 64 by rw [HS.out.sim.mods, List.length_map]; exact HSL.out.2.2.1)
  clear hcr hst hstep
  subst hk
  go_enter Try.func21, Try.ntmps21
  go_wp2_with (first
    | ((with_reducible refine gate_dst (N := 4) rfl ?_); refine box_event ?hg (N := 4) ?hd (cs := #[.slice AL nL cL, .int .i64 lv, .slice AM nM cM]) (t := 31) ?hr ?_; (case hd => rfl); (case hg => rfl); (case hr => first | (go_simp; done) | (go_simp; rfl)); intro b4 hgx w4 hbox hb; have HB4 := Aside0.mk (below_step HB.out hb); have HX4 := Aside0.mk hbox; have HG4 := Aside0.mk (show w.heap.size ≤ b4 by rw [hgx]; exact HB.out.size); skip; clear hgx hbox hb)
    | ((with_reducible refine gate_dst (N := 5) rfl ?_); refine box_event ?hg (N := 5) ?hd (cs := #[.int .i64 4, .int .i64 n, .string x0, .int .i64 x1, .int .i64 x2, .int .i64 x3, .int .i32 x4, .int .i64 x5, .bool x6, .slice A7 n7 c7, .slice A2 n2 c2]) (t := 57) ?hr ?_; (case hd => rfl); (case hg => rfl); (case hr => first | (go_simp; done) | (go_simp; rfl)); intro b5 hgx w5 hbox hb; have HB5 := Aside0.mk (below_step HB4.out hb); have HX5 := Aside0.mk hbox; have HG5 := Aside0.mk (show w.heap.size ≤ b5 by rw [hgx]; exact HB4.out.size); have HX4b := Aside0.mk (blk_below HX4.out hb); have N54 := Aside0.mk (show b4 ≠ b5 from fun e => by have := blk_lt HX4.out; omega); clear hgx hbox hb)
    | ((with_reducible refine gate_dst (N := 6) rfl ?_); refine box_event ?hg (N := 6) ?hd (cs := #[.slice none 0 0, .int .i64 0, .slice none 0 0]) (t := 31) ?hr ?_; (case hd => rfl); (case hg => rfl); (case hr => first | (go_simp; done) | (go_simp; rfl)); intro b6 hgx w6 hbox hb; have HB6 := Aside0.mk (below_step HB5.out hb); have HX6 := Aside0.mk hbox; have HG6 := Aside0.mk (show w.heap.size ≤ b6 by rw [hgx]; exact HB5.out.size); have HX4c := Aside0.mk (blk_below HX4b.out hb); have HX5c := Aside0.mk (blk_below HX5.out hb); have hq4 := HX4c.out; have e0 : w6.cell? ⟨b4, 0, none⟩ = some (.slice AL nL cL) := blk_cell hq4 0; have e1 : w6.cell? ⟨b4, 1, none⟩ = some (.int .i64 lv) := blk_cell hq4 1; have e2 : w6.cell? ⟨b4, 2, none⟩ = some (.slice AM nM cM) := blk_cell hq4 2; clear hgx hbox hb)
    | ((with_reducible refine gate_dst (N := 10) rfl ?_); refine box_event ?hg (N := 10) ?hd (cs := #[.slice none 0 0, .int .i64 0, .slice none 0 0]) (t := 31) ?hr ?_; (case hd => rfl); (case hg => rfl); (case hr => first | (go_simp; done) | (go_simp; rfl)); intro b10 hgx w10 hbox hb; have HB10 := Aside0.mk (below_step HB6.out hb); have HX10 := Aside0.mk hbox; have HG10 := Aside0.mk (show w.heap.size ≤ b10 by rw [hgx]; exact HB6.out.size); have HX4d := Aside0.mk (blk_below HX4c.out hb); have HX5d := Aside0.mk (blk_below HX5c.out hb); have HX6d := Aside0.mk (blk_below HX6.out hb); have n4 : b4 ≠ b10 := (fun e => by have := blk_lt HX4c.out; omega); have n5 : b5 ≠ b10 := (fun e => by have := blk_lt HX5c.out; omega); have n6 : b6 ≠ b10 := (fun e => by have := blk_lt HX6.out; omega); have N4 := Aside0.mk n4; have N5 := Aside0.mk n5; have N6 := Aside0.mk n6; have hq5 := HX5d.out; have k0 : w10.cell? ⟨b5, 0, none⟩ = some (.int .i64 4) := blk_cell hq5 0; have k1 : w10.cell? ⟨b5, 1, none⟩ = some (.int .i64 n) := blk_cell hq5 1; have k2 : w10.cell? ⟨b5, 2, none⟩ = some (.string x0) := blk_cell hq5 2; have k3 : w10.cell? ⟨b5, 3, none⟩ = some (.int .i64 x1) := blk_cell hq5 3; have k4 : w10.cell? ⟨b5, 4, none⟩ = some (.int .i64 x2) := blk_cell hq5 4; have k5 : w10.cell? ⟨b5, 5, none⟩ = some (.int .i64 x3) := blk_cell hq5 5; have k6 : w10.cell? ⟨b5, 6, none⟩ = some (.int .i32 x4) := blk_cell hq5 6; have k7 : w10.cell? ⟨b5, 7, none⟩ = some (.int .i64 x5) := blk_cell hq5 7; have k8 : w10.cell? ⟨b5, 8, none⟩ = some (.bool x6) := blk_cell hq5 8; have k9 : w10.cell? ⟨b5, 9, none⟩ = some (.slice A7 n7 c7) := blk_cell hq5 9; have k10 : w10.cell? ⟨b5, 10, none⟩ = some (.slice A2 n2 c2) := blk_cell hq5 10; have hq4d := HX4d.out; have d0 : w10.cell? ⟨b4, 0, none⟩ = some (.slice AL nL cL) := blk_cell hq4d 0; have d1 : w10.cell? ⟨b4, 1, none⟩ = some (.int .i64 lv) := blk_cell hq4d 1; have d2 : w10.cell? ⟨b4, 2, none⟩ = some (.slice AM nM cM) := blk_cell hq4d 2; have z0 : w10.cell? ⟨b10, 0, none⟩ = some (.slice none 0 0) := blk_cell hbox 0; have z1 : w10.cell? ⟨b10, 1, none⟩ = some (.int .i64 0) := blk_cell hbox 1; have z2 : w10.cell? ⟨b10, 2, none⟩ = some (.slice none 0 0) := blk_cell hbox 2; have y0 := blk_frozen hbox 0; have y1 := blk_frozen hbox 1; have y2 := blk_frozen hbox 2; clear hq5 hq4d; clear hgx hbox hb))
  obtain ⟨W1, hW1⟩ : ∃ W1, (((w10.setCell ⟨b10, 0, none⟩ (.slice AL nL cL)).setCell ⟨b10, 1, none⟩ (.int .i64 lv)).setCell ⟨b10, 2, none⟩ (.slice AM nM cM)) = W1 := ⟨_, rfl⟩
  have HB1 := Aside0.mk (show Below w.heap.size w W1 by rw [← hW1]; exact sc_put3b HB10.out HG10.out _ _ _)
  have hx4 : W1.heap[b4]? = some (.cells #[.slice AL nL cL, .int .i64 lv, .slice AM nM cM] 31 (0, 0)) := by rw [← hW1]; exact sc_far3 HX4d.out N4.out _ _ _
  have hx5 : W1.heap[b5]? = some (.cells #[.int .i64 4, .int .i64 n, .string x0, .int .i64 x1, .int .i64 x2, .int .i64 x3, .int .i32 x4, .int .i64 x5, .bool x6, .slice A7 n7 c7, .slice A2 n2 c2] 57 (0, 0)) := by rw [← hW1]; exact sc_far3 HX5d.out N5.out _ _ _
  have hx6 : W1.heap[b6]? = some (.cells #[.slice none 0 0, .int .i64 0, .slice none 0 0] 31 (0, 0)) := by rw [← hW1]; exact sc_far3 HX6d.out N6.out _ _ _
  have hx10 : W1.heap[b10]? = some (.cells #[.slice AL nL cL, .int .i64 lv, .slice AM nM cM] 31 (0, 0)) := by rw [← hW1]; exact sc_put3 HX10.out _ _ _
  rw [hW1]
  clear hW1 HX4 HX4b HX4c HX4d HX5 HX5c HX5d HX6 HX6d HX10 N4 N5 k0 k1 k2 k3 k4 k5 k6 k7 k8 k9 k10 e0 e1 e2 d0 d1 d2 z0 z1 z2 y0 y1 y2 n4 n5 n6 HB4 HB5 HB6 HB10 hq4
  have HX4 := Aside0.mk hx4; have HX5 := Aside0.mk hx5; have HX6 := Aside0.mk hx6; have HX10 := Aside0.mk hx10
  have HI1 := Aside0.mk (HS.out.is.below HB1.out)
  have HZ := Aside0.mk (show col b4 = 0 ∧ col b5 = 0 ∧ col b6 = 0 ∧ col b10 = 0 from ⟨HS.out.is.new _ HG4.out, HS.out.is.new _ HG5.out, HS.out.is.new _ HG6.out, HS.out.is.new _ HG10.out⟩)
  have o0 : W1.cell? ⟨b5, 0, none⟩ = some (.int .i64 4) := blk_cell hx5 0; have o1 : W1.cell? ⟨b5, 1, none⟩ = some (.int .i64 n) := blk_cell hx5 1; have o2 : W1.cell? ⟨b5, 2, none⟩ = some (.string x0) := blk_cell hx5 2; have o3 : W1.cell? ⟨b5, 3, none⟩ = some (.int .i64 x1) := blk_cell hx5 3; have o4 : W1.cell? ⟨b5, 4, none⟩ = some (.int .i64 x2) := blk_cell hx5 4; have o5 : W1.cell? ⟨b5, 5, none⟩ = some (.int .i64 x3) := blk_cell hx5 5; have o6 : W1.cell? ⟨b5, 6, none⟩ = some (.int .i32 x4) := blk_cell hx5 6; have o7 : W1.cell? ⟨b5, 7, none⟩ = some (.int .i64 x5) := blk_cell hx5 7; have o8 : W1.cell? ⟨b5, 8, none⟩ = some (.bool x6) := blk_cell hx5 8; have o9 : W1.cell? ⟨b5, 9, none⟩ = some (.slice A7 n7 c7) := blk_cell hx5 9; have o10 : W1.cell? ⟨b5, 10, none⟩ = some (.slice A2 n2 c2) := blk_cell hx5 10
  clear hx4 hx5 hx6 hx10
  go_wp2_with (go_at_call 35; go_loud (refine (HSTEP.out base _ g col A2 n2 c2 HI1.out (Kd.F_mono (Kd.V_at (Kd.V_below HV2.out HB1.out)).2.2 (fun k hk => hk.1.1)) (Kd.V_at HV2.out).1.symm).mono ?_; rintro e wA ⟨rfl, cA, hI, hKx⟩; have HCZ := Aside0.mk (show ∀ b, b < W1.heap.size → col b = 0 → cA b = 0 from fun b hb h0 => by rw [hKx.ext b hb]; exact h0); have hK := hKx; have HIA := Aside0.mk hI; have HKA := Aside0.mk ((ScK.of_below HB1.out HBS.out).trans hK); have HA4 := Aside0.mk ((hK.keep b4 (blk_lt HX4.out) HZ.out.1).trans HX4.out); have HA5 := Aside0.mk ((hK.keep b5 (blk_lt HX5.out) HZ.out.2.1).trans HX5.out); have HA6 := Aside0.mk ((hK.keep b6 (blk_lt HX6.out) HZ.out.2.2.1).trans HX6.out); have HA10 := Aside0.mk ((hK.keep b10 (blk_lt HX10.out) HZ.out.2.2.2).trans HX10.out); have HSZ := Aside0.mk (show W1.heap.size ≤ wA.heap.size from hK.below.size); have HL14 := Aside0.mk (show b4 < W1.heap.size ∧ b5 < W1.heap.size ∧ b6 < W1.heap.size ∧ b10 < W1.heap.size from ⟨blk_lt HX4.out, blk_lt HX5.out, blk_lt HX6.out, blk_lt HX10.out⟩); have HVLA := Aside0.mk (Kd.V_step (Kd.V_below HVL.out HB1.out) (fun k h0 hlt => hK.keep k (Nat.lt_of_lt_of_le h0.2 HB1.out.size) h0.1.1)); have HVMA := Aside0.mk (Kd.V_step (Kd.V_below HVM.out HB1.out) (fun k h0 hlt => hK.keep k (Nat.lt_of_lt_of_le h0.2 HB1.out.size) h0.1.1)); have HV7A := Aside0.mk (Kd.V_step (Kd.V_below HV7.out HB1.out) (fun k h0 hlt => hK.keep k (Nat.lt_of_lt_of_le h0.2 HB1.out.size) h0.1.1)); have HV2A := Aside0.mk (Kd.V_step (Kd.V_below HV2.out HB1.out) (fun k h0 hlt => hK.keep k (Nat.lt_of_lt_of_le h0.2 HB1.out.size) h0.1.1)); have e0 : wA.cell? ⟨b4, 0, none⟩ = some (.slice AL nL cL) := blk_cell HA4.out 0; have e1 : wA.cell? ⟨b4, 1, none⟩ = some (.int .i64 lv) := blk_cell HA4.out 1; have e2 : wA.cell? ⟨b4, 2, none⟩ = some (.slice AM nM cM) := blk_cell HA4.out 2; have a0 : wA.cell? ⟨b5, 0, none⟩ = some (.int .i64 4) := blk_cell HA5.out 0; have a1 : wA.cell? ⟨b5, 1, none⟩ = some (.int .i64 n) := blk_cell HA5.out 1; have a2 : wA.cell? ⟨b5, 2, none⟩ = some (.string x0) := blk_cell HA5.out 2; have a3 : wA.cell? ⟨b5, 3, none⟩ = some (.int .i64 x1) := blk_cell HA5.out 3; have a4 : wA.cell? ⟨b5, 4, none⟩ = some (.int .i64 x2) := blk_cell HA5.out 4; have a5 : wA.cell? ⟨b5, 5, none⟩ = some (.int .i64 x3) := blk_cell HA5.out 5; have a6 : wA.cell? ⟨b5, 6, none⟩ = some (.int .i32 x4) := blk_cell HA5.out 6; have a7 : wA.cell? ⟨b5, 7, none⟩ = some (.int .i64 x5) := blk_cell HA5.out 7; have a8 : wA.cell? ⟨b5, 8, none⟩ = some (.bool x6) := blk_cell HA5.out 8; have a9 : wA.cell? ⟨b5, 9, none⟩ = some (.slice A7 n7 c7) := blk_cell HA5.out 9; have a10 : wA.cell? ⟨b5, 10, none⟩ = some (.slice A2 n2 c2) := blk_cell HA5.out 10; clear hI hK o0 o1 o2 o3 o4 o5 o6 o7 o8 o9 o10; clear hKx))
  go_wp2_with (first | (go_at_call 36; (refine (rf_Import_calls HVLA.out HVMA.out (by have h1 := HS.out.len; have h2 := HNN.out; omega) HMS.out x0 l HLL.out HV2A.out).mono ?_; rw [HCR.out]; rintro e wB ⟨AR, nR, cR, AQ, nQ, cQ, rfl, hvL, hvM, hb⟩; have HRL := Aside0.mk hvL; have HRM := Aside0.mk hvM; have HBB := Aside0.mk hb; have HY6 := Aside0.mk (blk_below HA6.out hb); clear hvL hvM hb)) | ((with_reducible refine gate_dst (N := 13) rfl ?_); refine box_event ?hg (N := 13) ?hd (cs := #[.slice none 0 0, .int .i64 0, .slice none 0 0]) (t := 31) ?hr ?_; (case hd => rfl); (case hg => rfl); (case hr => first | (go_simp; done) | (go_simp; rfl)); intro b13 hgx w13 hbox hb; have HB13 := Aside0.mk hb; have HX13 := Aside0.mk hbox; have HG13 := Aside0.mk (show wB.heap.size ≤ b13 from Nat.le_of_eq hgx.symm); have HY6b := Aside0.mk (blk_below HY6.out hb); have n6 : b6 ≠ b13 := (fun e => by have := blk_lt HY6.out; omega); have n6' : b13 ≠ b6 := Ne.symm n6; have N6b := Aside0.mk n6; have z0 : w13.cell? ⟨b13, 0, none⟩ = some (.slice none 0 0) := blk_cell hbox 0; have z1 : w13.cell? ⟨b13, 1, none⟩ = some (.int .i64 0) := blk_cell hbox 1; have z2 : w13.cell? ⟨b13, 2, none⟩ = some (.slice none 0 0) := blk_cell hbox 2; have y0 := blk_frozen hbox 0; have y1 := blk_frozen hbox 1; have y2 := blk_frozen hbox 2; have u0 : w13.cell? ⟨b6, 0, none⟩ = some (.slice none 0 0) := blk_cell HY6b.out 0; have u1 : w13.cell? ⟨b6, 1, none⟩ = some (.int .i64 0) := blk_cell HY6b.out 1; have u2 : w13.cell? ⟨b6, 2, none⟩ = some (.slice none 0 0) := blk_cell HY6b.out 2; have s0 := blk_frozen HY6b.out 0; have s1 := blk_frozen HY6b.out 1; have s2 := blk_frozen HY6b.out 2; clear hgx hbox hb))
  refine bodyPost_ret (results_list (rs := [.cell 6 31, .tmp 7]) rfl (by simp) (.cell b6 31 #[.slice AR nR cR, .int .i64 r2, .slice AQ nQ cQ] (0, 0) _ rfl (sc_put3 (sc_far3 HY6b.out N6b.out _ _ _) _ _ _) Try.underlying31 rfl (by kernel_rfl) (.tmp .nil))) rfl ?_
  have hB13 := sc_put3b HB13.out HG13.out (.slice AR nR cR) (.int .i64 r2) (.slice AQ nQ cQ)
  exact do_end1 HS.out HBS.out HIA.out HKA.out (below_step HBB.out hB13) HG6.out (Nat.lt_of_lt_of_le HL14.out.2.2.1 HSZ.out) (HCZ.out b6 HL14.out.2.2.1 HZ.out.2.2.1) (Kd.V_below HRL.out hB13) (Kd.V_below HRM.out hB13) HST.out _ _ _
set_option maxRecDepth 100000 in
set_option maxHeartbeats 4000000 in
theorem sc_do_5 {bx : List Nat} {N base : Nat} {w : World} {g : Nat} {col : Nat → Nat} {D M : List (List SO)} {L : List RO} {lv : Int} {Ms : List (List RO)} {vL vM : Value} (h : St bx N base w g col D M L lv Ms vL vM) (hN : N ≤ 999) (kd n : Int) (x : SO) (v7 v2 : Value) (l : List S71)
    (h7 : Kd.V k69 69 w 0 (FP bx col) v7 x.f7) (h2 : Kd.V k71 71 w 0 (FP bx col) v2 l) (hx7 : x.f7.length ≤ 1048576) (hl : l.length ≤ 1048576) (hle : ∀ e ∈ l, e.f4.length ≤ 1048576) (hk0 : kd ≠ 0) (hk1 : kd ≠ 1) (hk2 : kd ≠ 2) (hk3 : kd ≠ 3) (hk4 : kd ≠ 4) :
    Calls Try.prog 21 #[.pointer (some ⟨g, 0, none⟩), .agg #[vL, .int .i64 lv, vM], .agg #[.int .i64 kd, .int .i64 n, .string x.f0, .int .i64 x.f1, .int .i64 x.f2, .int .i64 x.f3, .int .i32 x.f4, .int .i64 x.f5, .bool x.f6, v7, v2]] w (DoPost bx (N + 1) base w g col) := by
  obtain ⟨AL, nL, cL, rfl⟩ := V_slc h.vl
  obtain ⟨AM, nM, cM, rfl⟩ := V_slc h.vm
  obtain ⟨A7, n7, c7, rfl⟩ := V_slc h7
  obtain ⟨A2, n2, c2, rfl⟩ := V_slc h2
  obtain ⟨x0, x1, x2, x3, x4, x5, x6, x7⟩ := x
  dsimp only at h7 hx7 ⊢
  have HS := Aside0.mk h
  have HVL := Aside0.mk (Kd.V_bound h.vl); have HVM := Aside0.mk (Kd.V_bound h.vm); have HV7 := Aside0.mk (Kd.V_bound h7); have HV2 := Aside0.mk (Kd.V_bound h2)
  have HNN := Aside0.mk hN; have HX7 := Aside0.mk hx7; have HLL := Aside0.mk hl; have HLE := Aside0.mk hle
  have hsl := h.is.len
  have HSL := Aside0.mk hsl
  have hlv := h.sim.lv
  have HLV := Aside0.mk (show 0 ≤ lv ∧ lv ≤ 64 by omega)
  have HDQ := Aside0.mk (show (D.getD (D.length - 1) []).length ≤ 4096 by
    rw [List.getD_eq_getElem?_getD, List.getElem?_eq_getElem (by omega)]
    exact hsl.2.2.2 _ (List.getElem_mem _))
  have HBS := Aside0.mk (show base ≤ w.heap.size by have := h.is.base; omega)
  have HB := Aside0.mk (Below.refl w.heap.size w)
  clear h h7 h2 hx7 hl hle hN hsl hlv
  have hsim := HS.out.sim
  have HST := Aside0.mk (show StepTo D M L (L, lv, Ms) from ⟨hsim, by simp, HS.out.par, HSL.out.2.2.1⟩)
  clear hsim
  have q0 : (kd == 0) = false := beq_eq_false_iff_ne.mpr hk0
  have q1 : (kd == 1) = false := beq_eq_false_iff_ne.mpr hk1
  have q2 : (kd == 2) = false := beq_eq_false_iff_ne.mpr hk2
  have q3 : (kd == 3) = false := beq_eq_false_iff_ne.mpr hk3
  have q4 : (kd == 4) = false := beq_eq_false_iff_ne.mpr hk4
  clear hk0 hk1 hk2 hk3 hk4
  go_enter Try.func21, Try.ntmps21
  go_wp2_with (first
    | ((with_reducible refine gate_dst (N := 4) rfl ?_); refine box_event ?hg (N := 4) ?hd (cs := #[.slice AL nL cL, .int .i64 lv, .slice AM nM cM]) (t := 31) ?hr ?_; (case hd => rfl); (case hg => rfl); (case hr => first | (go_simp; done) | (go_simp; rfl)); intro b4 hgx w4 hbox hb; have HB4 := Aside0.mk (below_step HB.out hb); have HX4 := Aside0.mk hbox; have HG4 := Aside0.mk (show w.heap.size ≤ b4 by rw [hgx]; exact HB.out.size); skip; clear hgx hbox hb)
    | ((with_reducible refine gate_dst (N := 5) rfl ?_); refine box_event ?hg (N := 5) ?hd (cs := #[.int .i64 kd, .int .i64 n, .string x0, .int .i64 x1, .int .i64 x2, .int .i64 x3, .int .i32 x4, .int .i64 x5, .bool x6, .slice A7 n7 c7, .slice A2 n2 c2]) (t := 57) ?hr ?_; (case hd => rfl); (case hg => rfl); (case hr => first | (go_simp; done) | (go_simp; rfl)); intro b5 hgx w5 hbox hb; have HB5 := Aside0.mk (below_step HB4.out hb); have HX5 := Aside0.mk hbox; have HG5 := Aside0.mk (show w.heap.size ≤ b5 by rw [hgx]; exact HB4.out.size); have HX4b := Aside0.mk (blk_below HX4.out hb); have N54 := Aside0.mk (show b4 ≠ b5 from fun e => by have := blk_lt HX4.out; omega); clear hgx hbox hb)
    | ((with_reducible refine gate_dst (N := 6) rfl ?_); refine box_event ?hg (N := 6) ?hd (cs := #[.slice none 0 0, .int .i64 0, .slice none 0 0]) (t := 31) ?hr ?_; (case hd => rfl); (case hg => rfl); (case hr => first | (go_simp; done) | (go_simp; rfl)); intro b6 hgx w6 hbox hb; have HB6 := Aside0.mk (below_step HB5.out hb); have HX6 := Aside0.mk hbox; have HG6 := Aside0.mk (show w.heap.size ≤ b6 by rw [hgx]; exact HB5.out.size); have HX4c := Aside0.mk (blk_below HX4b.out hb); have HX5c := Aside0.mk (blk_below HX5.out hb); have hq4 := HX4c.out; have e0 : w6.cell? ⟨b4, 0, none⟩ = some (.slice AL nL cL) := blk_cell hq4 0; have e1 : w6.cell? ⟨b4, 1, none⟩ = some (.int .i64 lv) := blk_cell hq4 1; have e2 : w6.cell? ⟨b4, 2, none⟩ = some (.slice AM nM cM) := blk_cell hq4 2; have u0 : w6.cell? ⟨b6, 0, none⟩ = some (.slice none 0 0) := blk_cell hbox 0; have u1 : w6.cell? ⟨b6, 1, none⟩ = some (.int .i64 0) := blk_cell hbox 1; have u2 : w6.cell? ⟨b6, 2, none⟩ = some (.slice none 0 0) := blk_cell hbox 2; have s0 := blk_frozen hbox 0; have s1 := blk_frozen hbox 1; have s2 := blk_frozen hbox 2; clear hgx hbox hb)
    | ((with_reducible refine gate_dst (N := 10) rfl ?_); refine box_event ?hg (N := 10) ?hd (cs := #[.slice none 0 0, .int .i64 0, .slice none 0 0]) (t := 31) ?hr ?_; (case hd => rfl); (case hg => rfl); (case hr => first | (go_simp; done) | (go_simp; rfl)); intro b10 hgx w10 hbox hb; have HB10 := Aside0.mk (below_step HB6.out hb); have HX10 := Aside0.mk hbox; have HG10 := Aside0.mk (show w.heap.size ≤ b10 by rw [hgx]; exact HB6.out.size); have HX4d := Aside0.mk (blk_below HX4c.out hb); have HX5d := Aside0.mk (blk_below HX5c.out hb); have HX6d := Aside0.mk (blk_below HX6.out hb); have n4 : b4 ≠ b10 := (fun e => by have := blk_lt HX4c.out; omega); have n5 : b5 ≠ b10 := (fun e => by have := blk_lt HX5c.out; omega); have n6 : b6 ≠ b10 := (fun e => by have := blk_lt HX6.out; omega); have N4 := Aside0.mk n4; have N5 := Aside0.mk n5; have N6 := Aside0.mk n6; have hq5 := HX5d.out; have k0 : w10.cell? ⟨b5, 0, none⟩ = some (.int .i64 kd) := blk_cell hq5 0; have k1 : w10.cell? ⟨b5, 1, none⟩ = some (.int .i64 n) := blk_cell hq5 1; have k2 : w10.cell? ⟨b5, 2, none⟩ = some (.string x0) := blk_cell hq5 2; have k3 : w10.cell? ⟨b5, 3, none⟩ = some (.int .i64 x1) := blk_cell hq5 3; have k4 : w10.cell? ⟨b5, 4, none⟩ = some (.int .i64 x2) := blk_cell hq5 4; have k5 : w10.cell? ⟨b5, 5, none⟩ = some (.int .i64 x3) := blk_cell hq5 5; have k6 : w10.cell? ⟨b5, 6, none⟩ = some (.int .i32 x4) := blk_cell hq5 6; have k7 : w10.cell? ⟨b5, 7, none⟩ = some (.int .i64 x5) := blk_cell hq5 7; have k8 : w10.cell? ⟨b5, 8, none⟩ = some (.bool x6) := blk_cell hq5 8; have k9 : w10.cell? ⟨b5, 9, none⟩ = some (.slice A7 n7 c7) := blk_cell hq5 9; have k10 : w10.cell? ⟨b5, 10, none⟩ = some (.slice A2 n2 c2) := blk_cell hq5 10; have hq4d := HX4d.out; have d0 : w10.cell? ⟨b4, 0, none⟩ = some (.slice AL nL cL) := blk_cell hq4d 0; have d1 : w10.cell? ⟨b4, 1, none⟩ = some (.int .i64 lv) := blk_cell hq4d 1; have d2 : w10.cell? ⟨b4, 2, none⟩ = some (.slice AM nM cM) := blk_cell hq4d 2; have z0 : w10.cell? ⟨b10, 0, none⟩ = some (.slice none 0 0) := blk_cell hbox 0; have z1 : w10.cell? ⟨b10, 1, none⟩ = some (.int .i64 0) := blk_cell hbox 1; have z2 : w10.cell? ⟨b10, 2, none⟩ = some (.slice none 0 0) := blk_cell hbox 2; have y0 := blk_frozen hbox 0; have y1 := blk_frozen hbox 1; have y2 := blk_frozen hbox 2; clear hq5 hq4d; have hq6 := HX6d.out; have m6 : b10 ≠ b6 := Ne.symm n6; have u0 : w10.cell? ⟨b6, 0, none⟩ = some (.slice none 0 0) := blk_cell hq6 0; have u1 : w10.cell? ⟨b6, 1, none⟩ = some (.int .i64 0) := blk_cell hq6 1; have u2 : w10.cell? ⟨b6, 2, none⟩ = some (.slice none 0 0) := blk_cell hq6 2; have s0 := blk_frozen hq6 0; have s1 := blk_frozen hq6 1; have s2 := blk_frozen hq6 2; clear hq6; clear hgx hbox hb))
  refine bodyPost_ret (results_list (rs := [.cell 6 31, .tmp 7]) rfl (by simp) (.cell b6 31 #[.slice AL nL cL, .int .i64 lv, .slice AM nM cM] (0, 0) _ rfl (sc_put3 (sc_far3 HX6d.out N6.out _ _ _) _ _ _) Try.underlying31 rfl (by kernel_rfl) (.tmp .nil))) rfl ?_
  have hbF := sc_put3b (sc_put3b HB10.out HG10.out (.slice AL nL cL) (.int .i64 lv) (.slice AM nM cM)) HG6.out (.slice AL nL cL) (.int .i64 lv) (.slice AM nM cM)
  have hs := HS.out.below hbF
  exact ⟨D, M, L, lv, Ms, AL, nL, cL, AM, nM, cM, col, rfl, ⟨hs.is, hs.vl, hs.vm, hs.sim, Nat.le_succ_of_le hs.len, hs.par, hs.bxs⟩, ScK.of_below hbF HBS.out⟩
theorem sc_do_calls {bx : List Nat} {N base : Nat} {w : World} {g : Nat} {col : Nat → Nat} {D M : List (List SO)} {L : List RO} {lv : Int} {Ms : List (List RO)} {vL vM : Value} (h : St bx N base w g col D M L lv Ms vL vM) (hN : N ≤ 999) (kd n : Int) (x : SO) (v7 v2 : Value) (l : List S71)
    (h7 : Kd.V k69 69 w 0 (FP bx col) v7 x.f7) (h2 : Kd.V k71 71 w 0 (FP bx col) v2 l) (hx7 : x.f7.length ≤ 1048576) (hl : l.length ≤ 1048576) (hle : ∀ e ∈ l, e.f4.length ≤ 1048576) :
    Calls Try.prog 21 #[.pointer (some ⟨g, 0, none⟩), .agg #[vL, .int .i64 lv, vM], .agg #[.int .i64 kd, .int .i64 n, .string x.f0, .int .i64 x.f1, .int .i64 x.f2, .int .i64 x.f3, .int .i32 x.f4, .int .i64 x.f5, .bool x.f6, v7, v2]] w (DoPost bx (N + 1) base w g col) := by
  by_cases h0 : kd = 0
  · exact sc_do_0 h hN kd n x v7 v2 l h7 h2 hx7 hl hle h0
  by_cases h1 : kd = 1
  · exact sc_do_1 h hN kd n x v7 v2 l h7 h2 hx7 hl hle h1
  by_cases h2_ : kd = 2
  · exact sc_do_2 h hN kd n x v7 v2 l h7 h2 hx7 hl hle h2_
  by_cases h3 : kd = 3
  · exact sc_do_3 h hN kd n x v7 v2 l h7 h2 hx7 hl hle h3
  by_cases h4 : kd = 4
  · exact sc_do_4 h hN kd n x v7 v2 l h7 h2 hx7 hl hle h4
  · exact sc_do_5 h hN kd n x v7 v2 l h7 h2 hx7 hl hle h0 h1 h2_ h3 h4

end Go.Proofs.Ytkgjpelddncfdaa.P

-- Written by a program of this session (wip/tools/hp.py) out of the translation.
import Derived.Test.YtnfgncapmkpcjaaPx0
import Derived.Test.YtnfgncapmkpcjaaPx1
import Derived.Test.YtnfgncapmkpcjaaPx2
import Derived.Test.YtnfgncapmkpcjaaPx3
namespace Go.Proofs.Ytnfgncapmkpcjaa.P
open Go.RowKit Go.Proofs.YtnfgncapmkpcjaaW.PrintWords Go.Proofs.YtnfgncapmkpcjaaW.PrintLast Go.Proofs.YtnfgncapmkpcjaaW.PrintMore
attribute [local go_sem] max2_int min2_int max_two min_two max_three min_three max_four min_four   -- for this text's walks alone
set_option linter.unusedVariables false
set_option linter.unusedSimpArgs false

/-! ### order_Sort: function 12 -/
/-- What the closures of Sort have caught: the row of what is placed, and the items. -/
def OsEnv (W : World) (bd bl : Nat) (ad : Addr) (cd : Nat) (A : Option Addr) (c : Nat) (l : List S41) (D : List Bool) : Prop :=
  W.cell? ⟨bd, 0, none⟩ = some (.slice (some ad) l.length cd) ∧ W.cell? ⟨bl, 0, none⟩ = some (.slice A l.length c) ∧ l.length ≤ c ∧ (∀ i : Nat, i < l.length → W.cell? (ad.add i) = some (.bool (rdOf false D (i : Int)))) ∧ Kd.C k41 W A l.length l
theorem OsEnv.below {W W1 : World} {bd bl : Nat} {ad : Addr} {cd : Nat} {A : Option Addr} {c : Nat} {l : List S41} {D : List Bool} (h : OsEnv W bd bl ad cd A c l D) (hb : Below W.heap.size W W1) : OsEnv W1 bd bl ad cd A c l D :=
  ⟨pw_cell_below hb h.1, pw_cell_below hb h.2.1, h.2.2.1, fun i hi => pw_cell_below hb (h.2.2.2.1 i hi), Kd.C_below h.2.2.2.2 hb⟩
theorem os_find_lt (l : List S41) (a : ByteArray) : ∀ (i : Int), os_ix (os_is a) l i = -1 ∨ os_ix (os_is a) l i < i + (l.length : Int) := by
  induction l with
  | nil => intro i; exact .inl rfl
  | cons x l ih =>
    intro i
    unfold os_ix
    by_cases h : os_is a x = true
    · rw [if_pos h]; right; simp only [List.length_cons]; omega
    · rw [if_neg h]
      rcases ih (i + 1) with h1 | h1
      · exact .inl h1
      · right; simp only [List.length_cons]; omega
theorem os_ix_lt {α : Type} (p : α → Bool) (l : List α) : ∀ (i : Int), os_ix p l i = -1 ∨ (i ≤ os_ix p l i ∧ os_ix p l i < i + (l.length : Int)) := by
  induction l with
  | nil => intro i; exact .inl rfl
  | cons x l ih =>
    intro i
    unfold os_ix
    by_cases h : p x = true
    · rw [if_pos h]; right; simp only [List.length_cons]; omega
    · rw [if_neg h]
      rcases ih (i + 1) with h1 | h1
      · exact .inl h1
      · right; simp only [List.length_cons]; omega
def os_open (l : List S41) (D : List Bool) (u : ByteArray) : Bool := !(rdOf false D (os_find l u))
def os_can (l : List S41) (D : List Bool) (x : S41) : Bool := !(rdOf false D (os_find l x.f0)) && !(decide (0 ≤ os_ix (os_open l D) x.f1 0))
set_option maxHeartbeats 1000000 in
set_option maxRecDepth 100000 in
theorem os_open_closure (bd bl : Nat) (ad : Addr) (cd : Nat) (A : Option Addr) (c : Nat) (l : List S41) (D : List Bool) (u : ByteArray) (W : World) (h : OsEnv W bd bl ad cd A c l D) (hl : l.length ≤ 100000) (hk : 0 ≤ os_find l u) :
    Calls Try.prog 23 #[.string u, .pointer (some ⟨bd, 0, none⟩), .pointer (some ⟨bl, 0, none⟩)] W fun e w' => e = .returned (.bool (os_open l D u)) ∧ Below W.heap.size W w' := by
  obtain ⟨h1, h2, hc, h3, hC⟩ := h
  have hlt := os_find_lt l u 0
  obtain ⟨m, hm⟩ : ∃ m : Nat, os_find l u = m := ⟨(os_find l u).toNat, by omega⟩
  have hmm : os_ix (os_is u) l 0 = (m : Int) := hm
  have hml : m < l.length := by omega
  have hx := h3 m hml
  have HF := Aside0.mk (fun w' (hb : Below W.heap.size W w') => order_find.calls A c l u (m : Int) w' (Kd.C_below hC hb) hc (by unfold order_find.f; rw [if_pos hl, hm]))
  unfold os_open
  rw [hm]
  generalize rdOf false D (m : Int) = b at hx ⊢
  have HX := Aside0.mk (And.intro h1 (And.intro h2 hx))
  have hm1 : (m : Int) < (l.length : Int) := by omega
  have hm0 : (0 : Int) ≤ (m : Int) := by omega
  clear h3 hC hlt hmm hm hl hk
  generalize l.length = n at *
  go_enter Try.func23, Try.ntmps23
  go_wp2
  go_region_held3 (fun w' => w'.cell? ⟨bd, 0, none⟩ = some (.slice (some ad) n cd) ∧ w'.cell? ⟨bl, 0, none⟩ = some (.slice A n c) ∧ w'.cell? (ad.add m) = some (.bool b)) (first | exact ⟨h1, h2, hx⟩ | exact ⟨h1e, h2e, hxe⟩)
    (first | (go_at_call 19; ((with_reducible refine (HF.out _ (below_drew (Below.refl _ _))).mono ?_)); rintro e we ⟨rfl, hb⟩; have hB := below_step (below_drew (Below.refl W.heap.size W)) hb; have h1e := pw_cell_below hB HX.out.1; have h2e := pw_cell_below hB HX.out.2.1; have hxe := pw_cell_below hB HX.out.2.2; have HB := Aside0.mk hB; clear hb hB))
  go_wp2
  go_ret
  exact ⟨rfl, HB.out⟩
set_option maxHeartbeats 2000000 in
set_option maxRecDepth 100000 in
theorem os_ixf_open (cb : Array Value) (A : Option Addr) (c : Nat) (l : List (ByteArray)) (p : ByteArray → Bool) (w : World) (hl : l.length ≤ 100000) (hC : Kd.C Kd.string w A l.length l)
    (hf : ∀ W, Below w.heap.size w W → ∀ (i : Nat), i < l.length → Calls Try.prog 23 (#[.string (rdOf ByteArray.empty l (i : Int))] ++ cb) W fun e w' => e = .returned (.bool (p (rdOf ByteArray.empty l (i : Int)))) ∧ Below W.heap.size W w') :
    Calls Try.prog 27 #[.slice A l.length c, .func (.func 23) #[] cb] w fun e w' => e = .returned (.int .i64 (os_ix p l 0)) ∧ Below w.heap.size w w' := by
  have HF := Aside0.mk hf
  have HC := Aside0.mk hC
  clear hf hC
  obtain ⟨R, hR⟩ : ∃ R, R = os_ix p l 0 := ⟨_, rfl⟩
  rw [← hR]
  have HR := Aside0.mk hR
  clear hR
  go_enter Try.func27, Try.ntmps27
  go_wp2
  go_loopg [8] (l.length + 1) (fun kx v8 wr => ∃ i : Nat, v8 = .int .i64 i ∧ Aside0 (i + kx = l.length + 1 ∧ i ≤ l.length) ∧ Aside0 (Below w.heap.size w wr) ∧ Aside0 (os_ix p (l.drop i) (i : Int) = R))
  case atStart => exact ⟨0, rfl, ⟨⟨by omega, by omega⟩⟩, ⟨Below.refl _ _⟩, ⟨HR.out.symm⟩⟩
  case round =>
    obtain ⟨i, rfl, I, HB, HX⟩ := hrel
    by_cases hi : i < l.length
    · obtain ⟨ad, e, hx0⟩ := Kd.at_string HC.out (i : Int) (by omega) (by omega)
      cases e
      rw [Int.toNat_natCast] at hx0
      have er : rdOf ByteArray.empty l (i : Int) = l[i] := by unfold rdOf; rw [Int.toNat_natCast]; simp [List.getD_eq_getElem?_getD, hi]
      have hX := HX.out
      rw [List.drop_eq_getElem_cons hi, ← er] at hX
      unfold os_ix at hX
      replace hx0 := (HB.out.cell (World.block_lt_of_cell? w _ hx0)).trans hx0
      have hc := HF.out wr HB.out i hi
      generalize hz : rdOf ByteArray.empty l (i : Int) = z at hx0 hX hc
      clear er hz
      have hi1 : (i : Int) < (l.length : Int) := by omega
      have hi0 : (0 : Int) ≤ (i : Int) := by omega
      have hi2 : (i : Int) ≤ 100000 := by omega
      cases hp : p z
      · rw [hp] at hX hc
        rw [if_neg (by simp)] at hX
        have HX2 := Aside0.mk hX
        have HCL := Aside0.mk hc
        clear hX hp hc
        go_wp2_with (go_at_call 23; ((with_reducible refine HCL.out.mono ?_)); rintro e w3 ⟨rfl, hb⟩; have HB2 := Aside0.mk (below_step HB.out hb); clear hb)
        go_roundg (l.length - i)
        case measure => have := I.out; omega
        case rel => exact ⟨i + 1, by first | rfl | (simp; done), ⟨by have := I.out; omega⟩, HB2, ⟨by rw [show ((i + 1 : Nat) : Int) = (i : Int) + 1 by omega]; exact HX2.out⟩⟩
      · rw [hp] at hX hc
        rw [if_pos rfl] at hX
        have HX2 := Aside0.mk hX
        have HCL := Aside0.mk hc
        clear hX hp hc
        go_wp2_with (go_at_call 23; ((with_reducible refine HCL.out.mono ?_)); rintro e w3 ⟨rfl, hb⟩; have HB2 := Aside0.mk (below_step HB.out hb); clear hb)
        go_ret
        exact ⟨by rw [← HX2.out]; rfl, HB2.out⟩
    · have hX := HX.out
      rw [List.drop_eq_nil_of_le (by omega)] at hX
      have HX2 := Aside0.mk (show R = -1 from hX.symm)
      have hi1 : decide ((i : Int) < (l.length : Int)) = false := decide_eq_false (by omega)
      clear hX
      go_wp2
      go_ret
      exact ⟨by rw [HX2.out]; rfl, HB.out⟩
set_option maxHeartbeats 1000000 in
set_option maxRecDepth 100000 in
theorem os_contains (bd bl : Nat) (ad : Addr) (cd : Nat) (A : Option Addr) (c : Nat) (l : List S41) (D : List Bool) (A1 : Option Addr) (c1 : Nat) (us : List ByteArray) (W : World) (h : OsEnv W bd bl ad cd A c l D) (hl : l.length ≤ 100000) (hk : ∀ u ∈ us, 0 ≤ os_find l u) (hC : Kd.C Kd.string W A1 us.length us) (hu : us.length ≤ 100000) :
    Calls Try.prog 22 #[.slice A1 us.length c1, .func (.func 23) #[] #[.pointer (some ⟨bd, 0, none⟩), .pointer (some ⟨bl, 0, none⟩)]] W fun e w' => e = .returned (.bool (decide (0 ≤ os_ix (os_open l D) us 0))) ∧ Below W.heap.size W w' := by
  have hix := os_ixf_open #[.pointer (some ⟨bd, 0, none⟩), .pointer (some ⟨bl, 0, none⟩)] A1 c1 us (os_open l D) W hu hC (fun W1 hW i hi => by
    refine os_open_closure bd bl ad cd A c l D _ W1 (h.below hW) hl (hk _ ?_)
    unfold rdOf
    rw [Int.toNat_natCast, List.getD_eq_getElem?_getD, List.getElem?_eq_getElem hi]
    exact List.getElem_mem hi)
  generalize os_ix (os_open l D) us 0 = r at *
  have HIX := Aside0.mk hix
  clear hix h hC hk
  generalize us.length = n at *
  go_enter Try.func22, Try.ntmps22
  go_wp2_with (go_at_call 27; ((with_reducible refine HIX.out.mono ?_)); rintro e w3 ⟨rfl, hb⟩; have HB3 := Aside0.mk hb; clear hb)
  go_ret
  exact ⟨by first | rfl | simp, HB3.out⟩
set_option maxHeartbeats 2000000 in
set_option maxRecDepth 100000 in
theorem os_can_closure (bd bl : Nat) (ad : Addr) (cd : Nat) (A : Option Addr) (c : Nat) (l : List S41) (D : List Bool) (nm : ByteArray) (A1 : Option Addr) (c1 : Nat) (us : List ByteArray) (W : World) (h : OsEnv W bd bl ad cd A c l D) (hl : l.length ≤ 100000) (hn : 0 ≤ os_find l nm) (hk : ∀ u ∈ us, 0 ≤ os_find l u) (hU : Kd.C Kd.string W A1 us.length us) (hu : us.length ≤ 100000) :
    Calls Try.prog 21 #[.agg #[.string nm, .slice A1 us.length c1], .pointer (some ⟨bd, 0, none⟩), .pointer (some ⟨bl, 0, none⟩)] W fun e w' => e = .returned (.bool (os_can l D ⟨nm, us⟩)) ∧ Below W.heap.size W w' := by
  have h' := h
  obtain ⟨h1, h2, hc, h3, hC⟩ := h'
  have hlt := os_find_lt l nm 0
  obtain ⟨m, hm⟩ : ∃ m : Nat, os_find l nm = m := ⟨(os_find l nm).toNat, by omega⟩
  have hmm : os_ix (os_is nm) l 0 = (m : Int) := hm
  have hml : m < l.length := by omega
  have hx := h3 m hml
  have HF := Aside0.mk (fun w' (hb : Below W.heap.size W w') => order_find.calls A c l nm (m : Int) w' (Kd.C_below hC hb) hc (by unfold order_find.f; rw [if_pos hl, hm]))
  have HG := Aside0.mk (fun w' (hb : Below W.heap.size W w') => os_contains bd bl ad cd A c l D A1 c1 us w' (h.below hb) hl hk (Kd.C_below hU hb) hu)
  obtain ⟨W1, hW1⟩ : ∃ W1, W1 = W.alloc (.cells #[.string nm, .slice A1 us.length c1] 41) := ⟨_, rfl⟩
  have hB1 : Below W.heap.size W W1 := by rw [hW1]; exact below_alloc (Below.refl _ _) _
  have y1 := pw_cell_below hB1 h1
  have y2 := pw_cell_below hB1 h2
  have y3 := pw_cell_below hB1 hx
  have hblk : W1.heap[W.heap.size]? = some (.cells #[.string nm, .slice A1 us.length c1] 41 (0, 0)) := by rw [hW1]; exact blk_new W _
  have y4 : W1.cell? ⟨W.heap.size, 0, none⟩ = some (.string nm) := (blk_cell hblk 0).trans rfl
  have y5 : W1.cell? ⟨W.heap.size, 1, none⟩ = some (.slice A1 us.length c1) := (blk_cell hblk 1).trans rfl
  unfold os_can
  dsimp only
  rw [hm]
  generalize rdOf false D (m : Int) = b at hx y3 ⊢
  generalize decide (0 ≤ os_ix (os_open l D) us 0) = b2 at HG ⊢
  have HX := Aside0.mk (And.intro y1 (And.intro y2 (And.intro y3 (And.intro y4 y5))))
  have HB1 := Aside0.mk hB1
  have HW1 := Aside0.mk hW1
  have hm1 : (m : Int) < (l.length : Int) := by omega
  have hm0 : (0 : Int) ≤ (m : Int) := by omega
  clear h h1 h2 hx h3 hC hU hlt hmm hm hl hk hn hu hblk hB1
  generalize l.length = n at *
  generalize us.length = nu at *
  cases b
  · go_enter Try.func21, Try.ntmps21
    go_wp2
    rw [← hW1]
    clear hW1
    go_region_held3 (fun w' => w'.cell? ⟨bd, 0, none⟩ = some (.slice (some ad) n cd) ∧ w'.cell? ⟨bl, 0, none⟩ = some (.slice A n c) ∧ w'.cell? (ad.add m) = some (.bool false) ∧ w'.cell? ⟨W.heap.size, 0, none⟩ = some (.string nm) ∧ w'.cell? ⟨W.heap.size, 1, none⟩ = some (.slice A1 nu c1)) (first | exact ⟨y1, y2, y3, y4, y5⟩ | exact HXe.out | exact HXf.out)
      (first
        | (go_at_call 19; ((with_reducible refine (HF.out _ (below_drew HB1.out)).mono ?_)); rintro e we ⟨rfl, hb⟩; have hB := below_step (below_drew HB1.out) hb; have hS := below_step (below_drew (Below.refl W1.heap.size W1)) hb; have HXe := Aside0.mk (And.intro (pw_cell_below hS HX.out.1) (And.intro (pw_cell_below hS HX.out.2.1) (And.intro (pw_cell_below hS HX.out.2.2.1) (And.intro (pw_cell_below hS HX.out.2.2.2.1) (pw_cell_below hS HX.out.2.2.2.2))))); have HB := Aside0.mk hB; clear hb hB hS)
        | (go_at_call 22; ((with_reducible refine (HG.out _ HB.out).mono ?_)); rintro e wf ⟨rfl, hb⟩; have hB := below_step HB.out hb; have HXf := Aside0.mk (And.intro (pw_cell_below hb HXe.out.1) (And.intro (pw_cell_below hb HXe.out.2.1) (And.intro (pw_cell_below hb HXe.out.2.2.1) (And.intro (pw_cell_below hb HXe.out.2.2.2.1) (pw_cell_below hb HXe.out.2.2.2.2))))); have HBf := Aside0.mk hB; clear hb hB))
    go_wp2
    go_ret
    first | exact ⟨rfl, HB.out⟩ | exact ⟨by simp, HBf.out⟩ | exact ⟨by simp, HB.out⟩
  · go_enter Try.func21, Try.ntmps21
    go_wp2
    rw [← hW1]
    clear hW1
    refine wp_region_held_drew (S := fun w' => w'.cell? ⟨bd, 0, none⟩ = some (.slice (some ad) n cd) ∧ w'.cell? ⟨bl, 0, none⟩ = some (.slice A n c) ∧ w'.cell? (ad.add m) = some (.bool true) ∧ w'.cell? ⟨W.heap.size, 0, none⟩ = some (.string nm) ∧ w'.cell? ⟨W.heap.size, 1, none⟩ = some (.slice A1 nu c1)) (by kernel_rfl) ⟨y1, y2, y3, y4, y5⟩ (fun hHeld => ?_)
    refine wpAnyH_take (i := 0) (v := .slice (some ad) n cd) rfl (by kernel_rfl) (by kernel_rfl) (by kernel_rfl) (fun _ _ _ h => h) (Or.inl ⟨by rfl, fun w hSw => by (obtain ⟨s1, s2, s3, s4, s5⟩ := hSw; go_simp)⟩) (by assumption) ?_
    try simp only [Act.put, List.setIfInBounds_toArray, List.set_cons_zero, List.set_cons_succ]
    refine wpAnyH_take (i := 1) (v := .slice A n c) rfl (by kernel_rfl) (by kernel_rfl) (by kernel_rfl) (fun _ _ _ h => h) (Or.inl ⟨by rfl, fun w hSw => by (obtain ⟨s1, s2, s3, s4, s5⟩ := hSw; go_simp)⟩) (by assumption) ?_
    try simp only [Act.put, List.setIfInBounds_toArray, List.set_cons_zero, List.set_cons_succ]
    refine wpAnyH_take (i := 2) (v := .pointer (some ⟨W.heap.size, 0, none⟩)) rfl (by kernel_rfl) (by kernel_rfl) (by kernel_rfl) (fun _ _ _ h => h) (Or.inl ⟨by rfl, fun w hSw => by (obtain ⟨s1, s2, s3, s4, s5⟩ := hSw; go_simp)⟩) (by assumption) ?_
    try simp only [Act.put, List.setIfInBounds_toArray, List.set_cons_zero, List.set_cons_succ]
    refine wpAnyH_take (i := 3) (v := .string nm) rfl (by kernel_rfl) (by kernel_rfl) (by kernel_rfl) (fun _ _ _ h => h) (Or.inl ⟨by rfl, fun w hSw => by (obtain ⟨s1, s2, s3, s4, s5⟩ := hSw; go_simp)⟩) (by assumption) ?_
    try simp only [Act.put, List.setIfInBounds_toArray, List.set_cons_zero, List.set_cons_succ]
    refine wpAnyH_ready (rs := [4]) (by kernel_rfl) (by simp) ?_
    refine AllReadyH.cons rfl (fun K hK => ?_) AllReadyH.nil
    rw [if_pos (by rfl)]
    go_simp
    go_at_call 19
    refine (HF.out _ (below_drew HB1.out)).mono ?_
    rintro e we ⟨rfl, hb⟩
    have hB := below_step (below_drew HB1.out) hb
    have hS := below_step (below_drew (Below.refl W1.heap.size W1)) hb
    go_wp2
    refine hK.out _ _ ⟨pw_cell_below hS HX.out.1, pw_cell_below hS HX.out.2.1, pw_cell_below hS HX.out.2.2.1, pw_cell_below hS HX.out.2.2.2.1, pw_cell_below hS HX.out.2.2.2.2⟩ (fun hHeld => ?_)
    have HB := Aside0.mk hB
    clear hb hB hS hK
    try simp only [Act.put, List.setIfInBounds_toArray, List.set_cons_zero, List.set_cons_succ]
    refine wpAnyH_take (i := 5) (v := .pointer (some (ad.add m))) rfl (by kernel_rfl) (by kernel_rfl) (by kernel_rfl) (fun _ _ _ h => h) (Or.inl ⟨by rfl, fun w hSw => by (obtain ⟨s1, s2, s3, s4, s5⟩ := hSw; go_simp)⟩) (by assumption) ?_
    try simp only [Act.put, List.setIfInBounds_toArray, List.set_cons_zero, List.set_cons_succ]
    refine wpAnyH_take (i := 6) (v := .bool true) rfl (by kernel_rfl) (by kernel_rfl) (by kernel_rfl) (fun _ _ _ h => h) (Or.inl ⟨by rfl, fun w hSw => by (obtain ⟨s1, s2, s3, s4, s5⟩ := hSw; go_simp)⟩) (by assumption) ?_
    try simp only [Act.put, List.setIfInBounds_toArray, List.set_cons_zero, List.set_cons_succ]
    refine wpAnyH_take (i := 7) (v := .bool false) rfl (by kernel_rfl) (by kernel_rfl) (by kernel_rfl) (fun _ _ _ h => h) (Or.inl ⟨by rfl, fun w hSw => by (obtain ⟨s1, s2, s3, s4, s5⟩ := hSw; go_simp)⟩) (by assumption) ?_
    try simp only [Act.put, List.setIfInBounds_toArray, List.set_cons_zero, List.set_cons_succ]
    refine wpAnyH_take (i := 8) (v := .bool false) rfl (by kernel_rfl) (by kernel_rfl) (by kernel_rfl) (fun _ _ _ h => h) (Or.inl ⟨by rfl, fun w hSw => by (obtain ⟨s1, s2, s3, s4, s5⟩ := hSw; go_simp)⟩) (by assumption) ?_
    try simp only [Act.put, List.setIfInBounds_toArray, List.set_cons_zero, List.set_cons_succ]
    refine wpAnyH_take (i := 9) (v := undef) rfl (by kernel_rfl) (by kernel_rfl) (by kernel_rfl) (fun _ _ _ h => h) (Or.inr ⟨by rfl, rfl⟩) (by assumption) ?_
    try simp only [Act.put, List.setIfInBounds_toArray, List.set_cons_zero, List.set_cons_succ]
    refine wpAnyH_take (i := 10) (v := undef) rfl (by kernel_rfl) (by kernel_rfl) (by kernel_rfl) (fun _ _ _ h => h) (Or.inr ⟨by rfl, rfl⟩) (by assumption) ?_
    try simp only [Act.put, List.setIfInBounds_toArray, List.set_cons_zero, List.set_cons_succ]
    refine wpAnyH_take (i := 11) (v := undef) rfl (by kernel_rfl) (by kernel_rfl) (by kernel_rfl) (fun _ _ _ h => h) (Or.inr ⟨by rfl, rfl⟩) (by assumption) ?_
    try simp only [Act.put, List.setIfInBounds_toArray, List.set_cons_zero, List.set_cons_succ]
    refine wpAnyH_take (i := 12) (v := undef) rfl (by kernel_rfl) (by kernel_rfl) (by kernel_rfl) (fun _ _ _ h => h) (Or.inr ⟨by rfl, rfl⟩) (by assumption) ?_
    try simp only [Act.put, List.setIfInBounds_toArray, List.set_cons_zero, List.set_cons_succ]
    refine wpAnyH_take (i := 13) (v := undef) rfl (by kernel_rfl) (by kernel_rfl) (by kernel_rfl) (fun _ _ _ h => h) (Or.inr ⟨by rfl, rfl⟩) (by assumption) ?_
    try simp only [Act.put, List.setIfInBounds_toArray, List.set_cons_zero, List.set_cons_succ]
    refine wpAnyH_ready (rs := [14]) (by kernel_rfl) (by simp) ?_
    refine AllReadyH.cons rfl (fun K hK => ?_) AllReadyH.nil
    rw [if_pos (by rfl)]
    go_simp
    refine hK.out _ _ (by assumption) (fun hHeld => ?_)
    clear hK
    try simp only [Act.put, List.setIfInBounds_toArray, List.set_cons_zero, List.set_cons_succ]
    refine wpAnyH_ready (rs := [15]) (by kernel_rfl) (by simp) ?_
    refine AllReadyH.cons rfl (fun K hK => ?_) AllReadyH.nil
    rw [if_pos (by rfl)]
    go_simp
    refine hK.out _ _ (by assumption) (fun hHeld => ?_)
    clear hK
    try simp only [Act.put, List.setIfInBounds_toArray, List.set_cons_zero, List.set_cons_succ]
    refine wpAnyH_done (by kernel_rfl) ?_ _
    go_wp2
    go_ret
    exact ⟨rfl, HB.out⟩
set_option maxHeartbeats 2000000 in
set_option maxRecDepth 100000 in
theorem os_ixf_can (cb : Array Value) (A : Option Addr) (c : Nat) (l : List (S41)) (p : S41 → Bool) (w : World) (hl : l.length ≤ 100000) (hC : Kd.C k41 w A l.length l)
    (hf : ∀ W, Below w.heap.size w W → ∀ (i : Nat) (A1 : Option Addr) (c1 : Nat), i < l.length → (rd_T41 l (i : Int)).f1.length ≤ c1 → Kd.string.C W A1 (rd_T41 l (i : Int)).f1.length (rd_T41 l (i : Int)).f1 → Calls Try.prog 21 (#[.agg #[.string (rd_T41 l (i : Int)).f0, .slice A1 (rd_T41 l (i : Int)).f1.length c1]] ++ cb) W fun e w' => e = .returned (.bool (p (rd_T41 l (i : Int)))) ∧ Below W.heap.size W w') :
    Calls Try.prog 20 #[.slice A l.length c, .func (.func 21) #[] cb] w fun e w' => e = .returned (.int .i64 (os_ix p l 0)) ∧ Below w.heap.size w w' := by
  have HF := Aside0.mk hf
  have HC := Aside0.mk hC
  clear hf hC
  obtain ⟨R, hR⟩ : ∃ R, R = os_ix p l 0 := ⟨_, rfl⟩
  rw [← hR]
  have HR := Aside0.mk hR
  clear hR
  go_enter Try.func20, Try.ntmps20
  go_wp2
  go_loopg [8] (l.length + 1) (fun kx v8 wr => ∃ i : Nat, v8 = .int .i64 i ∧ Aside0 (i + kx = l.length + 1 ∧ i ≤ l.length) ∧ Aside0 (Below w.heap.size w wr) ∧ Aside0 (os_ix p (l.drop i) (i : Int) = R))
  case atStart => exact ⟨0, rfl, ⟨⟨by omega, by omega⟩⟩, ⟨Below.refl _ _⟩, ⟨HR.out.symm⟩⟩
  case round =>
    obtain ⟨i, rfl, I, HB, HX⟩ := hrel
    by_cases hi : i < l.length
    · obtain ⟨ad, A1, c1, e, hx0, hx1, hle1, hC1⟩ := at_T41 HC.out (i : Int) (by omega) (by omega)
      cases e
      rw [Int.toNat_natCast] at hx0 hx1
      have er : rd_T41 l (i : Int) = l[i] := by unfold rd_T41; rw [Int.toNat_natCast]; simp [List.getD_eq_getElem?_getD, hi]
      have hX := HX.out
      rw [List.drop_eq_getElem_cons hi, ← er] at hX
      unfold os_ix at hX
      replace hx0 := (HB.out.cell (World.block_lt_of_cell? w _ hx0)).trans hx0
      replace hx1 := (HB.out.cell (World.block_lt_of_cell? w _ hx1)).trans hx1
      have hc := HF.out wr HB.out i A1 c1 hi hle1 (Kd.C_below hC1 HB.out)
      clear hle1 hC1
      generalize hz : rd_T41 l (i : Int) = z at hx0 hx1 hX hc
      obtain ⟨z0, z1⟩ := z
      clear er hz
      dsimp only at hx0 hx1 hc
      generalize z1.length = n1 at hx1 hc
      have hi1 : (i : Int) < (l.length : Int) := by omega
      have hi0 : (0 : Int) ≤ (i : Int) := by omega
      have hi2 : (i : Int) ≤ 100000 := by omega
      cases hp : p ⟨z0, z1⟩
      · rw [hp] at hX hc
        rw [if_neg (by simp)] at hX
        have HX2 := Aside0.mk hX
        have HCL := Aside0.mk hc
        clear hX hp hc
        go_wp2_with (go_at_call 21; ((with_reducible refine HCL.out.mono ?_)); rintro e w3 ⟨rfl, hb⟩; have HB2 := Aside0.mk (below_step HB.out hb); clear hb)
        go_roundg (l.length - i)
        case measure => have := I.out; omega
        case rel => exact ⟨i + 1, by first | rfl | (simp; done), ⟨by have := I.out; omega⟩, HB2, ⟨by rw [show ((i + 1 : Nat) : Int) = (i : Int) + 1 by omega]; exact HX2.out⟩⟩
      · rw [hp] at hX hc
        rw [if_pos rfl] at hX
        have HX2 := Aside0.mk hX
        have HCL := Aside0.mk hc
        clear hX hp hc
        go_wp2_with (go_at_call 21; ((with_reducible refine HCL.out.mono ?_)); rintro e w3 ⟨rfl, hb⟩; have HB2 := Aside0.mk (below_step HB.out hb); clear hb)
        go_ret
        exact ⟨by rw [← HX2.out]; rfl, HB2.out⟩
    · have hX := HX.out
      rw [List.drop_eq_nil_of_le (by omega)] at hX
      have HX2 := Aside0.mk (show R = -1 from hX.symm)
      have hi1 : decide ((i : Int) < (l.length : Int)) = false := decide_eq_false (by omega)
      clear hX
      go_wp2
      go_ret
      exact ⟨by rw [HX2.out]; rfl, HB.out⟩
/-- Is all that is asked for there, so that no place is -1? -/
def os_good (l : List S41) : Bool := decide (l.length ≤ 1000) && l.all (fun x => decide (0 ≤ os_find l x.f0) && (decide (x.f1.length ≤ 100000) && x.f1.all (fun u => decide (0 ≤ os_find l u))))
theorem os_good_len {l : List S41} (h : os_good l = true) : l.length ≤ 1000 := by
  unfold os_good at h
  rw [Bool.and_eq_true] at h
  exact of_decide_eq_true h.1
theorem os_good_at {l : List S41} (h : os_good l = true) (i : Nat) (hi : i < l.length) : 0 ≤ os_find l (rd_T41 l (i : Int)).f0 ∧ (rd_T41 l (i : Int)).f1.length ≤ 100000 ∧ ∀ u ∈ (rd_T41 l (i : Int)).f1, 0 ≤ os_find l u := by
  unfold os_good at h
  rw [Bool.and_eq_true] at h
  have h2 := List.all_eq_true.mp h.2 (rd_T41 l (i : Int)) (by unfold rd_T41; rw [Int.toNat_natCast, List.getD_eq_getElem?_getD, List.getElem?_eq_getElem hi]; exact List.getElem_mem hi)
  rw [Bool.and_eq_true, Bool.and_eq_true] at h2
  exact ⟨of_decide_eq_true h2.1, of_decide_eq_true h2.2.1, fun u hu => of_decide_eq_true (List.all_eq_true.mp h2.2.2 u hu)⟩
def order_Sort.lp (l : List S41) : Nat → List Bool → List Int → Option (List Int × Int × Int)
  | 0, _, _ => none
  | k + 1, D, out => if out.length < l.length then (if os_ix (os_can l D) l 0 < 0 then (slices_Index_bool_bool.f k D false).bind (fun r => some ([], r, 143)) else order_Sort.lp l k (D.set (os_ix (os_can l D) l 0).toNat true) (out ++ [os_ix (os_can l D) l 0])) else some (out, 0, 0)
def order_Sort.f (k : Nat) (l0 : List S41) : Option (List Int × Int × Int) := (order_Check.f k l0).bind fun bt => if bt.2 = 0 then (if os_good l0 = true then order_Sort.lp l0 k (List.replicate l0.length false) [] else none) else some ([], bt.1, bt.2)
theorem order_Sort.mono_l (l : List S41) : ∀ k D out, LeO (order_Sort.lp l k D out) (order_Sort.lp l (k + 1) D out)
  | 0, _, _ => fun r h => by simp [order_Sort.lp] at h
  | k + 1, D, out => by
    rw [order_Sort.lp, order_Sort.lp]
    exact LeO.ite (LeO.ite (LeO.bind (slices_Index_bool_bool.mono _ _ k) (fun _ => LeO.refl _)) (order_Sort.mono_l l k _ _)) (LeO.refl _)
theorem order_Sort.mono : ∀ a0 k, LeO (order_Sort.f k a0) (order_Sort.f (k + 1) a0) := by
  intro a0 k
  unfold order_Sort.f
  exact LeO.bind (order_Check.mono a0 k) (fun _ => LeO.ite (LeO.ite (order_Sort.mono_l a0 k _ _) (LeO.refl _)) (LeO.refl _))
set_option maxHeartbeats 4000000 in
set_option maxRecDepth 100000 in
theorem order_Sort.calls (k : Nat) (A0 : Option Addr) (c0 : Nat) (l0 : List S41) (r1 : List Int) (r2 : Int) (r3 : Int) (w : World) (hr0 : Kd.C k41 w A0 l0.length l0) (hc0 : l0.length ≤ c0) (h : order_Sort.f k l0 = some (r1, r2, r3)) :
    Calls Try.prog 12 #[.slice A0 l0.length c0] w fun e w' => ∃ v0_ : Value, e = .returned (.tuple #[v0_, .int .i64 r2, .int .i64 r3]) ∧ Kd.R (Kd.int .i64) 3 w' w.heap.size (fun _ => True) v0_ r1 ∧ Below w.heap.size w w' := by
  have HR0 := Aside0.mk hr0
  have HC0 := Aside0.mk hc0
  clear hr0 hc0
  have HBA := Aside0.mk (below_alloc (Below.refl w.heap.size w) (.cells #[.slice A0 l0.length c0] 22))
  unfold order_Sort.f at h
  obtain ⟨⟨i1, e1⟩, A1, h⟩ := Option.bind_eq_some_iff.mp h
  replace h : (if e1 = 0 then (if os_good l0 = true then order_Sort.lp l0 k (List.replicate l0.length false) [] else none) else some ([], i1, e1)) = some (r1, r2, r3) := h
  have HA1 := Aside0.mk A1
  clear A1
  by_cases c1 : e1 = 0
  · rw [if_pos c1] at h
    by_cases c2 : os_good l0 = true
    · rw [if_pos c2] at h
      have HG := Aside0.mk c2
      have hlen := os_good_len c2
      have hz0 : decide (0 ≤ (l0.length : Int)) = true := decide_eq_true (by omega)
      have hz1 : decide ((l0.length : Int).toNat ≤ 281474976710656) = true := decide_eq_true (by omega)
      have HL := Aside0.mk hlen
      have H := Aside0.mk h
      have hb0 : (e1 == 0) = true := beq_iff_eq.mpr c1
      have hb1 : (e1 != 0) = false := bne_eq_false_iff_eq.mpr c1
      clear h c1 c2 hlen
      go_enter Try.func12, Try.ntmps12
      go_wp2_with (first
        | (go_at_call 9; ((with_reducible refine (order_Check.calls k A0 c0 l0 i1 e1 _ (Kd.C_below HR0.out HBA.out) HC0.out HA1.out).mono ?_)); rintro e w1 ⟨rfl, hb⟩; have HB1 := Aside0.mk (below_step HBA.out hb); have HBL := Aside0.mk (blk_below (blk_new w _) hb); have hcl : w1.cell? ⟨w.heap.size, 0, none⟩ = some (.slice A0 l0.length c0) := (blk_cell HBL.out 0).trans rfl; clear hb)
        | ((with_reducible refine gate_dst (N := 21) rfl ?_); refine Kd.R_make Kd.bool _ 4 rfl (N := 21) rfl 48 _ _ rfl (l0.length : Int) rfl rfl Try.underlying48 (.bool false) 1 info4 rfl (by decide) (by omega) false (ok := fun _ => True) (okp := fun _ => True) rfl (fun _ hk => hk) trivial (of_decide_eq_true (by first | (with_reducible assumption) | assumption)) (Nat.le_trans (Nat.mul_le_mul_right _ (of_decide_eq_true (by first | (with_reducible assumption) | assumption) : (l0.length : Int).toNat ≤ 281474976710656)) (by omega)) (Below.refl _ _) (Nat.le_refl _) ?_; intro vD w2 ho hb hg_ hnew_; clear hg_ hnew_; have HOD := Aside0.mk (Kd.R_lower ho HB1.out.size); have HB2 := Aside0.mk (below_step HB1.out hb); have HBL2 := Aside0.mk (blk_below HBL.out hb); clear hb ho; obtain ⟨AD, cD, eD⟩ := Kd.R_slice HOD.out; rw [List.length_replicate, Int.toNat_natCast] at eD; subst eD))
      have HBD := Aside0.mk (blk_new w2 (.cells #[.slice AD l0.length cD] 48))
      have HOD2 := Aside0.mk (show Kd.R Kd.bool 4 w2 w.heap.size (fun _ => True) (.slice AD l0.length cD) (List.replicate l0.length false) from HOD.out)
      clear HOD hcl
      go_loopg [7] k (fun kq v7 wr => ∃ (out : List Int) (D : List Bool), Aside0 (order_Sort.lp l0 kq D out = some (r1, r2, r3)) ∧ Aside0 (kq ≤ k) ∧ Aside0 (D.length = l0.length) ∧ Aside0 (Kd.R (Kd.int .i64) 3 wr w.heap.size (fun _ => True) v7 out) ∧ Aside0 (Kd.R Kd.bool 4 wr w.heap.size (fun _ => True) (.slice AD l0.length cD) D) ∧ Aside0 (wr.heap[w.heap.size]? = some (.cells #[.slice A0 l0.length c0] 22 (0, 0))) ∧ Aside0 (wr.heap[w2.heap.size]? = some (.cells #[.slice AD l0.length cD] 48 (0, 0))) ∧ Aside0 (Below w.heap.size w wr))
      case atStart => exact ⟨[], _, H, ⟨Nat.le_refl _⟩, ⟨List.length_replicate⟩, ⟨Kd.R_nil _ _ _ _ _⟩, ⟨Kd.R_alloc HOD2.out _⟩, ⟨blk_alloc HBL2.out _⟩, HBD, ⟨below_alloc HB2.out _⟩⟩
      case round =>
        obtain ⟨out, D, HA, HK, HD, HO, HDn, HBl, HBd, HB⟩ := hrel
        cases gk with
        | zero => exact absurd HA.out (by simp [order_Sort.lp])
        | succ k1 =>
          have h := HA.out
          rw [order_Sort.lp] at h
          obtain ⟨Ao, co, eo⟩ := Kd.R_slice HO.out
          subst eo
          have hcl : wr.cell? ⟨w.heap.size, 0, none⟩ = some (.slice A0 l0.length c0) := (blk_cell HBl.out 0).trans rfl
          by_cases c1 : out.length < l0.length
          · rw [if_pos c1] at h
            have hlt : decide ((out.length : Int) < (l0.length : Int)) = true := decide_eq_true (by omega)
            have hltn : decide (out.length < l0.length) = true := decide_eq_true c1
            obtain ⟨go, cg, eg, gb, gl, clg, HGg⟩ := Kd.R_form HDn.out (by rw [HD.out]; omega)
            rw [HD.out] at eg
            injection eg with eg1 eg2 eg3
            subst eg1
            have HGB := Aside0.mk gb
            have hEnv : OsEnv wr w2.heap.size w.heap.size ⟨go, 0, none⟩ cD A0 c0 l0 D := by
              refine ⟨(blk_cell HBd.out 0).trans rfl, hcl, HC0.out, fun i hi => ?_, Kd.C_below HR0.out HB.out⟩
              have hx := (Kd.R_celln false HDn.out (i : Int) (by omega) (by omega)).1
              rw [add_plain]
              rwa [Int.toNat_natCast] at hx
            have hix := os_ixf_can #[.pointer (some ⟨w2.heap.size, 0, none⟩), .pointer (some ⟨w.heap.size, 0, none⟩)] A0 c0 l0 (os_can l0 D) wr (by have := HL.out; omega) (Kd.C_below HR0.out HB.out) (fun W hW i A1 c1 hi hle hC1 => by
              obtain ⟨q1, q2, q3⟩ := os_good_at HG.out i hi
              exact os_can_closure w2.heap.size w.heap.size ⟨go, 0, none⟩ cD A0 c0 l0 D _ A1 c1 _ W (hEnv.below hW) (by have := HL.out; omega) q1 q3 hC1 q2)
            have hrange := os_ix_lt (os_can l0 D) l0 0
            generalize os_ix (os_can l0 D) l0 0 = r at h hix hrange
            have HIX := Aside0.mk hix
            have hl2 := HL.out
            clear hix hEnv gb gl HGg eg2 eg3
            by_cases c2 : r < 0
            · rw [if_pos c2] at h
              obtain ⟨q, hq, he⟩ := Option.bind_eq_some_iff.mp h
              injection he with he
              injection he with he1 he2
              injection he2 with he2 he3
              have hI := fun wz hz1 hz2 => slices_Index_bool_bool.calls k1 (some ⟨go, 0, none⟩) cD D false q wz hz1 hz2 hq
              rw [HD.out] at hI
              subst he1; subst he2; subst he3
              have HI := Aside0.mk hI
              have hrb : decide (r < 0) = true := decide_eq_true c2
              clear hI h hq c1 c2 hrange
              go_wp2_with (first
                | (go_at_call 20; ((with_reducible refine HIX.out.mono ?_)); rintro e w3 ⟨rfl, hb⟩; have HB3 := Aside0.mk (below_step HB.out hb); have HBd3 := Aside0.mk (blk_below HBd.out hb); have HD3 := Aside0.mk (Kd.R_below HDn.out hb); have hcd3 : w3.cell? ⟨w2.heap.size, 0, none⟩ = some (.slice (some ⟨go, 0, none⟩) l0.length cD) := (blk_cell HBd3.out 0).trans rfl; clear hb)
                | (go_at_call 24; ((with_reducible refine (HI.out _ (HD.out ▸ (Kd.R_reads' HD3.out).2.2) (Kd.R_reads' HD3.out).2.1).mono ?_)); rintro e w4 ⟨rfl, hd⟩; have HB4 := Aside0.mk (below_step HB3.out hd.below); clear hd))
              go_ret3
              exact ⟨_, rfl, Kd.R_nil _ _ _ _ _, HB4.out⟩
            · rw [if_neg c2] at h
              have H2 := Aside0.mk h
              have hrb : decide (r < 0) = false := decide_eq_false c2
              have hr0 : 0 ≤ r := by omega
              have hr1 : r < (l0.length : Int) := by omega
              have hr2 : r.toNat < l0.length := by omega
              have HLO := Aside0.mk c1
              clear h c1 c2 hrange
              go_wp2_with (first
                | (go_at_call 20; ((with_reducible refine HIX.out.mono ?_)); rintro e w3 ⟨rfl, hb⟩; have HB3 := Aside0.mk (below_step HB.out hb); have HBl3 := Aside0.mk (blk_below HBl.out hb); have HBd3 := Aside0.mk (blk_below HBd.out hb); have HD3 := Aside0.mk (Kd.R_below HDn.out hb); have HO3 := Aside0.mk (Kd.R_below HO.out hb); have hcd3 : w3.cell? ⟨w2.heap.size, 0, none⟩ = some (.slice (some ⟨go, 0, none⟩) l0.length cD) := (blk_cell HBd3.out 0).trans rfl; obtain ⟨hx3, hf3⟩ := Kd.R_celln false HD3.out r hr0 hr1; have HP3 := Aside0.mk (Kd.R_putg HD3.out r true); clear hb)
                | ((with_reducible refine gate_store (t := 4) (p := 36) rfl ?_); refine store_event (t := 4) (p := 36) (v := ?vo1) (w1 := (w3.setCell ⟨go, r.toNat, none⟩ (.bool true))) ?hg ?ho ?hn ?hr ?_; (case ho => rfl); (case hg => rfl); (case hn => rfl); (case hr => first | (go_simp; done) | (go_simp; rfl)); intro w4 hw; have HP4 := Aside0.mk (show Kd.R Kd.bool 4 w4 w.heap.size (fun _ => True) (.slice (some ⟨go, 0, none⟩) l0.length cD) (D.set r.toNat true) from (by rw [hw]; exact HP3.out.1)); have HG4 := Aside0.mk (show w3.grownBy w4 (some go) from (by rw [hw]; exact HP3.out.2)); have HO4 := Aside0.mk (Kd.R_over' (v := (.slice (some ⟨go, 0, none⟩) l0.length cD)) HO3.out (Kd.R_typed HD3.out) (by decide) HG4.out); have HB4 := Aside0.mk ((by rw [hw]; exact below_set HB3.out HGB.out : Below w.heap.size w w4)); have HBl4 := Aside0.mk (blk_grown HBl3.out HG4.out (Kd.R_ne HD3.out HBl3.out (by decide))); have HBd4 := Aside0.mk (blk_grown HBd3.out HG4.out (Kd.R_ne HD3.out HBd3.out (by decide))); clear hw)
                | ((with_reducible refine gate_builtin (b := .append) (xs := #[.tmp 37, .tmp 39]) rfl ?_); at_builtin; refine Kd.R_append (Kd.int .i64) (w0 := w) w.heap.size rfl (.tmp 37) (.tmp 39) 32 3 (.int .i64 0) 8 rfl Try.underlying32 info3 rfl (by decide) (by omega) (.slice Ao out.length co) out r [.int .i64 r] (fun _ => True) (fun _ => False) rfl rfl ?aP (fun _ hk => hk.elim) ?aF ?aO ?aB ?aS ?aL ?_; (case aP => exact rfl); (case aB => exact HB4.out); (case aF => exact (fun _ _ => trivial)); (case aO => exact HO4.out); (case aS => exact HB4.out.size); (case aL => have := HLO.out; omega); intro v5 w5 ho hb hg hat; have HO5 := Aside0.mk ho; have HB5 := Aside0.mk hb; have HP5 := Aside0.mk (Kd.R_over' HP4.out (Kd.R_typed HO4.out) (by decide) hg); have HBl5 := Aside0.mk (blk_grown HBl4.out hg (Kd.R_ne HO4.out HBl4.out (by decide))); have HBd5 := Aside0.mk (blk_grown HBd4.out hg (Kd.R_ne HO4.out HBd4.out (by decide))); clear ho hb hg hat))
              go_roundg k1
              case measure => have := HK.out; omega
              case rel => exact ⟨out ++ [r], D.set r.toNat true, H2, ⟨by have := HK.out; omega⟩, ⟨by rw [List.length_set]; exact HD.out⟩, HO5, HP5, HBl5, HBd5, HB5⟩
          · rw [if_neg c1] at h
            injection h with h
            injection h with h1 h2
            injection h2 with h2 h3
            subst h1; subst h2; subst h3
            have hlt : decide ((out.length : Int) < (l0.length : Int)) = false := decide_eq_false (by omega)
            have hltn : decide (out.length < l0.length) = false := decide_eq_false c1
            clear c1
            go_wp2
            go_ret3
            exact ⟨_, rfl, HO.out, HB.out⟩
    · rw [if_neg c2] at h; exact absurd h (by simp)
  · rw [if_neg c1] at h
    injection h with h
    injection h with h1 h2
    injection h2 with h2 h3
    subst h1; subst h2; subst h3
    have hb0 : (e1 == 0) = false := beq_eq_false_iff_ne.mpr c1
    have hb1 : (e1 != 0) = true := bne_iff_ne.mpr c1
    clear c1
    go_enter Try.func12, Try.ntmps12
    go_wp2_with (first
        | (go_at_call 9; ((with_reducible refine (order_Check.calls k A0 c0 l0 i1 e1 _ (Kd.C_below HR0.out HBA.out) HC0.out HA1.out).mono ?_)); rintro e w1 ⟨rfl, hb⟩; have HB1 := Aside0.mk (below_step HBA.out hb); clear hb))
    go_ret3
    exact ⟨_, rfl, Kd.R_nil _ _ _ _ _, HB1.out⟩

end Go.Proofs.Ytnfgncapmkpcjaa.P

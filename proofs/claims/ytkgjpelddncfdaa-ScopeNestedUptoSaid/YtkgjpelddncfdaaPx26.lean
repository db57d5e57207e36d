-- Written by a program of this session (wip/tools/hp.py) out of the translation.
import Derived.Test.YtkgjpelddncfdaaPx0
import Derived.Test.YtkgjpelddncfdaaPx3
import Derived.Test.YtkgjpelddncfdaaPx13
import Derived.Test.YtkgjpelddncfdaaPx14
import Derived.Test.YtkgjpelddncfdaaPx21
import Derived.Test.YtkgjpelddncfdaaPx24
import Derived.Test.YtkgjpelddncfdaaPx25
namespace Go.Proofs.Ytkgjpelddncfdaa.P
open Go.RowKit Go.Proofs.YtkgjpelddncfdaaW.PrintWords Go.Proofs.YtkgjpelddncfdaaW.PrintLast Go.Proofs.YtkgjpelddncfdaaW.PrintMore
attribute [local go_sem] max2_int min2_int max_two min_two max_three min_three max_four min_four   -- for this text's walks alone
set_option linter.unusedVariables false
set_option linter.unusedSimpArgs false

/-! ### pascalinelaw11_played: function 7 -/
theorem heap_par : Kd.Heap k69 := Kd.heap_iso _ (Kd.heap_pair (Kd.heap_int _) Kd.heap_bool)
theorem heap_exp : Kd.Heap k71 := Kd.heap_iso _ (Kd.heap_pair Kd.heap_string (Kd.heap_pair (Kd.heap_int _) (Kd.heap_pair (Kd.heap_int _) (Kd.heap_pair (Kd.heap_int _) (Kd.heap_slice _ heap_par)))))
/-- What came in, as a value that shares. -/
theorem V_came {α : Type} {d : Kd α} {e c : Nat} {w wr : World} {A : Option Addr} {xs : List α} {n : Nat} (hd : Kd.Heap d) (h : d.C w A xs.length xs) (hc : xs.length ≤ c) (hn : xs.length = n) (hb : Below w.heap.size w wr) {bx : List Nat} {col : Nat → Nat} (hcol : ∀ k, k < w.heap.size → col k = 0) (hbx : ∀ b ∈ bx, w.heap.size ≤ b) : Kd.V d e wr 0 (FP bx col) (.slice A n c) xs := by
  subst hn
  refine Kd.V_mk hc (Kd.F_mono (Kd.F_step (Kd.C_F hd h) (fun k hk _ => hb.block k hk)) (fun k hk => ⟨hcol k hk, fun hm => ?_⟩))
  have h1 := hbx k hm
  have h2 : k < w.heap.size := hk
  omega
theorem names_refl_l (l : List ByteArray) (hl : l.length ≤ 1000000) (d : Nat) : ∀ (k i : Nat), i ≤ l.length → l.length - i = d → d < k → pascalinelaw11_names.l0 k l l (i : Int) = some true := by
  induction d with
  | zero =>
    intro k i hi hd hk
    obtain ⟨k, rfl⟩ : ∃ m, k = m + 1 := ⟨k - 1, by omega⟩
    simp only [pascalinelaw11_names.l0]
    rw [if_neg (by omega)]
  | succ d ih =>
    intro k i hi hd hk
    obtain ⟨k, rfl⟩ : ∃ m, k = m + 1 := ⟨k - 1, by omega⟩
    simp only [pascalinelaw11_names.l0]
    rw [if_pos (by omega), if_pos (by omega), if_pos (by omega), if_pos trivial, rf_up i (by omega)]
    exact ih k (i + 1) (by omega) (by omega) (by omega)
theorem names_refl (l : List ByteArray) (hl : l.length ≤ 1000000) (k : Nat) (hk : l.length < k) : pascalinelaw11_names.f k l l = some true := by
  unfold pascalinelaw11_names.f
  rw [if_pos rfl]
  exact names_refl_l l hl l.length k 0 (by omega) (by omega) hk
def SmallOp (o : S57) : Prop := o.f2.f7.length ≤ 1048576 ∧ o.f3.length ≤ 1048576 ∧ ∀ e ∈ o.f3, e.f4.length ≤ 1048576
theorem FP.less {bx bx' : List Nat} {col : Nat → Nat} (h : ∀ b ∈ bx', b ∈ bx) {k : Nat} (hk : FP bx col k) : FP bx' col k := ⟨hk.1, fun hm => hk.2 (h k hm)⟩
section
variable {bx : List Nat} {N base g : Nat} {w w' : World} {col : Nat → Nat} {D M : List (List SO)} {L : List RO} {lv : Int} {Ms : List (List RO)} {vL vM : Value}
theorem St.less {bx' : List Nat} (hs : St bx N base w g col D M L lv Ms vL vM) (h : ∀ b ∈ bx', b ∈ bx) : St bx' N base w g col D M L lv Ms vL vM :=
  ⟨hs.is, Kd.V_mono hs.vl (fun _ hk => hk.less h), Kd.V_mono hs.vm (fun _ hk => hk.less h), hs.sim, hs.len, hs.par, fun b hb => hs.bxs b (h b hb)⟩
/-- A new block is no part of what is there. -/
theorem St.more (hs : St bx N base w g col D M L lv Ms vL vM) (hb : Below w.heap.size w w') (b : Nat) (h1 : w.heap.size ≤ b) (h2 : b < w'.heap.size) : St (b :: bx) N base w' g col D M L lv Ms vL vM := by
  have key : ∀ k, FP bx col k ∧ k < w.heap.size → FP (b :: bx) col k := fun k hk => ⟨hk.1.1, fun hm => by
    rcases List.mem_cons.1 hm with rfl | hm
    · have := hk.2; omega
    · exact hk.1.2 hm⟩
  exact ⟨hs.is.below hb, Kd.V_mono (Kd.V_below (Kd.V_bound hs.vl) hb) key, Kd.V_mono (Kd.V_below (Kd.V_bound hs.vm) hb) key, hs.sim, hs.len, hs.par, fun k hk => by
    rcases List.mem_cons.1 hk with rfl | hk
    · exact h2
    · exact Nat.lt_of_lt_of_le (hs.bxs k hk) hb.size⟩
/-- A store into one of the boxes. -/
theorem St.set (hs : St bx N base w g col D M L lv Ms vL vM) {p : Addr} (hp : p.block ∈ bx) (hc : col p.block = 0) (v : Value) : St bx N base (w.setCell p v) g col D M L lv Ms vL vM :=
  ⟨hs.is.set0 p hc v, Kd.V_far hs.vl (fun k hk e => hk.2 (by rw [e]; exact hp)) v, Kd.V_far hs.vm (fun k hk e => hk.2 (by rw [e]; exact hp)) v, hs.sim, hs.len, hs.par, fun b hb => by simpa [World.setCell] using hs.bxs b hb⟩
theorem St.set3 (hs : St bx N base w g col D M L lv Ms vL vM) {b : Nat} (hp : b ∈ bx) (hc : col b = 0) (y0 y1 y2 : Value) : St bx N base (((w.setCell ⟨b, 0, none⟩ y0).setCell ⟨b, 1, none⟩ y1).setCell ⟨b, 2, none⟩ y2) g col D M L lv Ms vL vM :=
  ((hs.set (p := ⟨b, 0, none⟩) hp hc y0).set (p := ⟨b, 1, none⟩) hp hc y1).set (p := ⟨b, 2, none⟩) hp hc y2
end
/-- Behind the calls. -/
def PlPost (w : World) (e : Ending) (w' : World) : Prop :=
  ∃ (base g : Nat) (col : Nat → Nat) (D M : List (List SO)) (L : List RO) (lv : Int) (Ms : List (List RO)) (A : Option Addr) (n c : Nat) (A' : Option Addr) (n' c' : Nat), w.heap.size ≤ base ∧
    e = .returned (.tuple #[.pointer (some ⟨g, 0, none⟩), .agg #[.slice A n c, .int .i64 lv, .slice A' n' c'], .bool true]) ∧ St [] 100 base w' g col D M L lv Ms (.slice A n c) (.slice A' n' c') ∧ Below w.heap.size w w'
theorem pl_cell {w : World} {g : Nat} {a : Addr} {v : Value} (h : w.cell? a = some v) (hne : a.block ≠ g) (y0 y1 y2 : Value) : (((w.setCell ⟨g, 0, none⟩ y0).setCell ⟨g, 1, none⟩ y1).setCell ⟨g, 2, none⟩ y2).cell? a = some v := by
  have e : ∀ (W : World) (j : Nat) (y : Value), (W.setCell ⟨g, j, none⟩ y).cell? a = W.cell? a := fun W j y => World.cell?_setCell_far W ⟨g, j, none⟩ a y (fun e => hne e.symm)
  rw [e, e, e]
  exact h
theorem IsS.low {base : Nat} {w : World} {g : Nat} {col : Nat → Nat} {D M : List (List SO)} (h : IsS base w g col D M) (k : Nat) (hk : col k ≠ 0) : base ≤ k := by
  obtain ⟨_, _, _, _, _, _, _, _, _, h7, _⟩ := h
  exact (h7 k hk).1
theorem sc_names_len {base : Nat} {w : World} {g : Nat} {col : Nat → Nat} {D M : List (List SO)} (h : IsS base w g col D M) : (sc_names D).length ≤ 4096 := by
  unfold sc_names
  rw [sc_nms_len]
  have hl := h.len
  rw [List.getD_eq_getElem?_getD, List.getElem?_eq_getElem (by omega)]
  exact hl.2.2.2 _ (List.getElem_mem _)
set_option maxRecDepth 100000 in
set_option maxHeartbeats 8000000 in
theorem sc_played_calls (A : Option Addr) (c : Nat) (l : List S57) (w : World) (hC : Kd.C k57 w A l.length l) (hl : l.length ≤ 1048576) (hsm : ∀ o ∈ l, SmallOp o) :
    Calls Try.prog 7 #[.slice A l.length c] w (PlPost w) := by
  have HC := Aside0.mk hC; have HLL := Aside0.mk hl; have HSM := Aside0.mk hsm
  have HB0 := Aside0.mk (Below.refl w.heap.size w)
  clear hC hsm
  go_enter Try.func7, Try.ntmps7
  go_wp2_with (first | ((with_reducible refine gate_dst (N := 3) rfl ?_); refine box_event ?hg (N := 3) ?hd (cs := #[.slice none 0 0, .int .i64 0, .slice none 0 0]) (t := 31) ?hr ?_; (case hd => rfl); (case hg => rfl); (case hr => first | (go_simp; done) | (go_simp; rfl)); intro b3 hgx w3 hbox hb; have HB3 := Aside0.mk hb; have HX3 := Aside0.mk hbox; have HG3 := Aside0.mk (show w.heap.size ≤ b3 from Nat.le_of_eq hgx.symm); clear hgx hbox hb) | (go_at_call 20; ((with_reducible refine (sc_New_calls _).mono ?_)); rintro e w4 ⟨g, c1, rfl, hI, hb⟩; have HI4 := Aside0.mk hI; have HB4 := Aside0.mk (below_step HB3.out hb); have HX34 := Aside0.mk (blk_below HX3.out hb); have HZ34 := Aside0.mk (show w3.heap.size ≤ w4.heap.size from hb.size); clear hb hI) | ((with_reducible refine gate_dst (N := 6) rfl ?_); refine box_event ?hg (N := 6) ?hd (cs := #[.slice none 0 0, .int .i64 0, .slice none 0 0]) (t := 31) ?hr ?_; (case hd => rfl); (case hg => rfl); (case hr => first | (go_simp; done) | (go_simp; rfl)); intro b6 hgx w6 hbox hb; have HI6 := Aside0.mk (HI4.out.below hb); have HB6 := Aside0.mk (below_step HB4.out hb); have HX36 := Aside0.mk (blk_below HX34.out hb); have HX6 := Aside0.mk hbox; have HG6 := Aside0.mk (show w4.heap.size ≤ b6 from Nat.le_of_eq hgx.symm); clear hgx hbox hb))
  have HW3 := Aside0.mk (show w.heap.size ≤ w3.heap.size from HB3.out.size)
  have HBX := Aside0.mk (show ∀ b ∈ [b3, b6], w.heap.size ≤ b from fun b hb => by
    rcases List.mem_cons.1 hb with rfl | hb
    · exact HG3.out
    · rw [List.mem_singleton.1 hb]; have h1 := HG6.out; have h2 := HB4.out.size; omega)
  have N36 := Aside0.mk (show b3 ≠ b6 from fun e => by have h1 := blk_lt HX34.out; have h2 := HG6.out; omega)
  have HCB0 := Aside0.mk (show c1 b3 = 0 ∧ c1 b6 = 0 from ⟨by
    cases e : c1 b3 with
    | zero => rfl
    | succ q => have h1 := HI4.out.low b3 (by omega); have h2 := blk_lt HX3.out; omega, HI4.out.new b6 HG6.out⟩)
  have HS0 := Aside0.mk (show St [b3, b6] 0 w3.heap.size w6 g c1 [[]] [] [] 0 [] (.slice none 0 0) (.slice none 0 0) from ⟨HI6.out, Kd.V_nil _ _ _ _ _, Kd.V_nil _ _ _ _ _, Sim.start, by simp, fun d hd x hx => by rw [List.mem_singleton.1 hd] at hx; simp at hx, fun b hb => by
    rcases List.mem_cons.1 hb with rfl | hb
    · exact blk_lt HX36.out
    · rw [List.mem_singleton.1 hb]; exact blk_lt HX6.out⟩)
  have HG6w := Aside0.mk (show w.heap.size ≤ b6 from HBX.out b6 (by simp))
  clear HX3 HX34 HB3 HB4 HI4 HI6 HG6
  go_loopg [7] (101) (fun kx v7 wr => ∃ (i : Nat) (D M : List (List SO)) (L : List RO) (lv : Int) (Ms : List (List RO)) (AL : Option Addr) (nL cL : Nat) (AM : Option Addr) (nM cM : Nat) (col : Nat → Nat), v7 = .int .i64 i ∧ Aside0 (i + kx = 101 ∧ i ≤ 100 ∧ i ≤ l.length) ∧ Aside0 (Below w.heap.size w wr) ∧ Aside0 (St [b3, b6] i w3.heap.size wr g col D M L lv Ms (.slice AL nL cL) (.slice AM nM cM)) ∧ Aside0 (wr.heap[b6]? = some (.cells #[.slice AL nL cL, .int .i64 lv, .slice AM nM cM] 31 (0, 0))) ∧ Aside0 (wr.heap[b3]? = some (.cells #[.slice none 0 0, .int .i64 0, .slice none 0 0] 31 (0, 0))) ∧ Aside0 (col b3 = 0 ∧ col b6 = 0))
  case atStart => exact ⟨0, [[]], [], [], 0, [], none, 0, 0, none, 0, 0, c1, rfl, ⟨⟨by omega, by omega, by omega⟩⟩, HB6, HS0, HX6, HX36, HCB0⟩
  case round =>
    obtain ⟨i, D, M, L, lv, Ms, AL, nL, cL, AM, nM, cM, col, rfl, HI, HB, HSt, HX6r, HX3r, HCB⟩ := hrel
    by_cases hi : i < l.length ∧ i < 100
    · obtain ⟨hi, hi100⟩ := hi
      obtain ⟨ad, A7, c7, A2, c2, e, hx0, hx1, hx2, hx3, hx4, hx5, hx6, hx7, hx8, hx9, hx10, hl7, hC7, hl2, hC2⟩ := at_T57 HC.out (i : Int) (by omega) (by omega)
      cases e
      obtain ⟨o, ho⟩ : ∃ o, rd_T57 l (i : Int) = o := ⟨_, rfl⟩
      have hmem : o ∈ l := by rw [← ho]; unfold rd_T57; rw [Int.toNat_natCast, List.getD_eq_getElem?_getD, List.getElem?_eq_getElem hi]; exact List.getElem_mem _
      have hsm := HSM.out o hmem
      rw [ho, Int.toNat_natCast] at hx0 hx1 hx2 hx3 hx4 hx5 hx6 hx7 hx8 hx9 hx10
      rw [ho] at hl7 hC7 hl2 hC2
      clear ho hmem
      obtain ⟨kd, n, ⟨x0, x1, x2, x3, x4, x5, x6, x7⟩, l2⟩ := o
      unfold SmallOp at hsm
      dsimp only at hx0 hx1 hx2 hx3 hx4 hx5 hx6 hx7 hx8 hx9 hx10 hl7 hC7 hl2 hC2 hsm
      have hv7 : ∀ bx : List Nat, (∀ b ∈ bx, w.heap.size ≤ b) → Kd.V k69 69 wr 0 (FP bx col) (.slice A7 x7.length c7) x7 := fun bx hbx => V_came heap_par hC7 hl7 rfl HB.out (fun k hk => by have h := HSt.out.is; cases e : col k with | zero => rfl | succ q => exact absurd (IsS.low h k (by omega)) (by have := HW3.out; omega)) hbx
      have hv2 : ∀ bx : List Nat, (∀ b ∈ bx, w.heap.size ≤ b) → Kd.V k71 71 wr 0 (FP bx col) (.slice A2 l2.length c2) l2 := fun bx hbx => V_came heap_exp hC2 hl2 rfl HB.out (fun k hk => by have h := HSt.out.is; cases e : col k with | zero => rfl | succ q => exact absurd (IsS.low h k (by omega)) (by have := HW3.out; omega)) hbx
      have HV7 := Aside0.mk hv7; have HV2 := Aside0.mk hv2
      clear hv7 hv2 hl7 hC7 hl2 hC2
      generalize hn7 : x7.length = n7 at hx9 HV7 hsm
      generalize hn2 : l2.length = n2 at hx10 HV2 hsm
      have HSM7 := Aside0.mk (show x7.length ≤ 1048576 by rw [hn7]; exact hsm.1)
      have HSM2 := Aside0.mk (show l2.length ≤ 1048576 by rw [hn2]; exact hsm.2.1)
      have HSME := Aside0.mk hsm.2.2
      clear hsm hn7 hn2
      have HEL := Aside0.mk (And.intro hx0 (And.intro hx1 (And.intro hx2 (And.intro hx3 (And.intro hx4 (And.intro hx5 (And.intro hx6 (And.intro hx7 (And.intro hx8 (And.intro hx9 hx10))))))))))
      have i1 : (0 : Int) ≤ (i : Int) := by omega
      have i2 : (i : Int) < (l.length : Int) := by omega
      have i3 : (i : Int) < 100 := by omega
      have HH := Aside0.mk (And.intro hi hi100)
      clear hi hi100 hx0 hx1 hx2 hx3 hx4 hx5 hx6 hx7 hx8 hx9 hx10
      go_wp2
      refine wp_region_held_drew (S := fun w' => w'.cell? ⟨b6, 0, none⟩ = some (.slice AL nL cL) ∧ w'.cell? ⟨b6, 1, none⟩ = some (.int .i64 lv) ∧ w'.cell? ⟨b6, 2, none⟩ = some (.slice AM nM cM) ∧ w'.cell? (ad.add (i * 11)) = some (.int .i64 kd) ∧ w'.cell? ⟨(ad.add (i * 11)).block, (ad.add (i * 11)).off + 1, none⟩ = some (.int .i64 n) ∧ w'.cell? ⟨(ad.add (i * 11)).block, (ad.add (i * 11)).off + 2, none⟩ = some (.string x0) ∧ w'.cell? ⟨(ad.add (i * 11)).block, (ad.add (i * 11)).off + 3, none⟩ = some (.int .i64 x1) ∧ w'.cell? ⟨(ad.add (i * 11)).block, (ad.add (i * 11)).off + 4, none⟩ = some (.int .i64 x2) ∧ w'.cell? ⟨(ad.add (i * 11)).block, (ad.add (i * 11)).off + 5, none⟩ = some (.int .i64 x3) ∧ w'.cell? ⟨(ad.add (i * 11)).block, (ad.add (i * 11)).off + 6, none⟩ = some (.int .i32 x4) ∧ w'.cell? ⟨(ad.add (i * 11)).block, (ad.add (i * 11)).off + 7, none⟩ = some (.int .i64 x5) ∧ w'.cell? ⟨(ad.add (i * 11)).block, (ad.add (i * 11)).off + 8, none⟩ = some (.bool x6) ∧ w'.cell? ⟨(ad.add (i * 11)).block, (ad.add (i * 11)).off + 9, none⟩ = some (.slice A7 n7 c7) ∧ w'.cell? ⟨(ad.add (i * 11)).block, (ad.add (i * 11)).off + 10, none⟩ = some (.slice A2 n2 c2)) (by kernel_rfl) (show wr.drew.cell? ⟨b6, 0, none⟩ = some (.slice AL nL cL) ∧ wr.drew.cell? ⟨b6, 1, none⟩ = some (.int .i64 lv) ∧ wr.drew.cell? ⟨b6, 2, none⟩ = some (.slice AM nM cM) ∧ wr.drew.cell? (ad.add (i * 11)) = some (.int .i64 kd) ∧ wr.drew.cell? ⟨(ad.add (i * 11)).block, (ad.add (i * 11)).off + 1, none⟩ = some (.int .i64 n) ∧ wr.drew.cell? ⟨(ad.add (i * 11)).block, (ad.add (i * 11)).off + 2, none⟩ = some (.string x0) ∧ wr.drew.cell? ⟨(ad.add (i * 11)).block, (ad.add (i * 11)).off + 3, none⟩ = some (.int .i64 x1) ∧ wr.drew.cell? ⟨(ad.add (i * 11)).block, (ad.add (i * 11)).off + 4, none⟩ = some (.int .i64 x2) ∧ wr.drew.cell? ⟨(ad.add (i * 11)).block, (ad.add (i * 11)).off + 5, none⟩ = some (.int .i64 x3) ∧ wr.drew.cell? ⟨(ad.add (i * 11)).block, (ad.add (i * 11)).off + 6, none⟩ = some (.int .i32 x4) ∧ wr.drew.cell? ⟨(ad.add (i * 11)).block, (ad.add (i * 11)).off + 7, none⟩ = some (.int .i64 x5) ∧ wr.drew.cell? ⟨(ad.add (i * 11)).block, (ad.add (i * 11)).off + 8, none⟩ = some (.bool x6) ∧ wr.drew.cell? ⟨(ad.add (i * 11)).block, (ad.add (i * 11)).off + 9, none⟩ = some (.slice A7 n7 c7) ∧ wr.drew.cell? ⟨(ad.add (i * 11)).block, (ad.add (i * 11)).off + 10, none⟩ = some (.slice A2 n2 c2) from ⟨blk_cell (blk_drew HX6r.out) 0, blk_cell (blk_drew HX6r.out) 1, blk_cell (blk_drew HX6r.out) 2, pw_cell_below (below_drew HB.out) HEL.out.1, pw_cell_below (below_drew HB.out) HEL.out.2.1, pw_cell_below (below_drew HB.out) HEL.out.2.2.1, pw_cell_below (below_drew HB.out) HEL.out.2.2.2.1, pw_cell_below (below_drew HB.out) HEL.out.2.2.2.2.1, pw_cell_below (below_drew HB.out) HEL.out.2.2.2.2.2.1, pw_cell_below (below_drew HB.out) HEL.out.2.2.2.2.2.2.1, pw_cell_below (below_drew HB.out) HEL.out.2.2.2.2.2.2.2.1, pw_cell_below (below_drew HB.out) HEL.out.2.2.2.2.2.2.2.2.1, pw_cell_below (below_drew HB.out) HEL.out.2.2.2.2.2.2.2.2.2.1, pw_cell_below (below_drew HB.out) HEL.out.2.2.2.2.2.2.2.2.2.2⟩) (fun hHeld => ?_)
      refine C.tk_take (i := 0) (v := ?_) (by kernel_rfl) (by kernel_rfl) (by kernel_rfl) (fun oi hoi => ?_) rfl
      rotate_left
      simp only [List.getElem?_toArray, List.getElem?_cons_succ, List.getElem?_cons_zero] at hoi
      cases hoi
      refine ⟨fun _ _ _ h => h, Or.inl ⟨by rfl, ?_⟩, by assumption, ?_⟩
      · (intro w hSw; (try dsimp only at hSw); go_simp; all_goals with_reducible rfl)
      try simp only [Act.put, List.setIfInBounds_toArray, List.set_cons_zero, List.set_cons_succ]
      refine C.tk_take (i := 1) (v := ?_) (by kernel_rfl) (by kernel_rfl) (by kernel_rfl) (fun oi hoi => ?_) rfl
      rotate_left
      simp only [List.getElem?_toArray, List.getElem?_cons_succ, List.getElem?_cons_zero] at hoi
      cases hoi
      refine ⟨fun _ _ _ h => h, Or.inl ⟨by rfl, ?_⟩, by assumption, ?_⟩
      · (intro w hSw; (try dsimp only at hSw); go_simp; all_goals with_reducible rfl)
      try simp only [Act.put, List.setIfInBounds_toArray, List.set_cons_zero, List.set_cons_succ]
      refine C.tk_take (i := 2) (v := ?_) (by kernel_rfl) (by kernel_rfl) (by kernel_rfl) (fun oi hoi => ?_) rfl
      rotate_left
      simp only [List.getElem?_toArray, List.getElem?_cons_succ, List.getElem?_cons_zero] at hoi
      cases hoi
      refine ⟨fun _ _ _ h => h, Or.inl ⟨by rfl, ?_⟩, by assumption, ?_⟩
      · (intro w hSw; (try dsimp only at hSw); go_simp; all_goals with_reducible rfl)
      try simp only [Act.put, List.setIfInBounds_toArray, List.set_cons_zero, List.set_cons_succ]
      refine C.tk_take (i := 3) (v := ?_) (by kernel_rfl) (by kernel_rfl) (by kernel_rfl) (fun oi hoi => ?_) rfl
      rotate_left
      simp only [List.getElem?_toArray, List.getElem?_cons_succ, List.getElem?_cons_zero] at hoi
      cases hoi
      refine ⟨fun _ _ _ h => h, Or.inl ⟨by rfl, ?_⟩, by assumption, ?_⟩
      · (intro w hSw; (try dsimp only at hSw); go_simp; all_goals with_reducible rfl)
      try simp only [Act.put, List.setIfInBounds_toArray, List.set_cons_zero, List.set_cons_succ]
      refine C.tk_take (i := 4) (v := ?_) (by kernel_rfl) (by kernel_rfl) (by kernel_rfl) (fun oi hoi => ?_) rfl
      rotate_left
      simp only [List.getElem?_toArray, List.getElem?_cons_succ, List.getElem?_cons_zero] at hoi
      cases hoi
      refine ⟨fun _ _ _ h => h, Or.inl ⟨by rfl, ?_⟩, by assumption, ?_⟩
      · (intro w hSw; (try dsimp only at hSw); go_simp; all_goals with_reducible rfl)
      try simp only [Act.put, List.setIfInBounds_toArray, List.set_cons_zero, List.set_cons_succ]
      refine C.tk_take (i := 5) (v := ?_) (by kernel_rfl) (by kernel_rfl) (by kernel_rfl) (fun oi hoi => ?_) rfl
      rotate_left
      simp only [List.getElem?_toArray, List.getElem?_cons_succ, List.getElem?_cons_zero] at hoi
      cases hoi
      refine ⟨fun _ _ _ h => h, Or.inl ⟨by rfl, ?_⟩, by assumption, ?_⟩
      · (intro w hSw; (try dsimp only at hSw); go_simp; all_goals with_reducible rfl)
      try simp only [Act.put, List.setIfInBounds_toArray, List.set_cons_zero, List.set_cons_succ]
      refine wpAnyH_ready (rs := [6, 10]) (by kernel_rfl) (by simp) ?_
      refine AllReadyH.cons rfl (fun K hK => ?_) (AllReadyH.cons rfl (fun K hK => ?_) AllReadyH.nil)
      · skip
        rw [if_pos (by rfl)]
        go_simp
        go_at_call 21
        refine (sc_do_calls (bx := [b3, b6]) (HSt.out.below (below_drew (Below.refl _ _))) (by have := HI.out; have := HH.out; omega) kd n (⟨x0, x1, x2, x3, x4, x5, x6, x7⟩ : SO) _ _ l2 (Kd.V_drew (HV7.out _ HBX.out)) (Kd.V_drew (HV2.out _ HBX.out)) HSM7.out HSM2.out HSME.out).mono ?_
        rintro e wD ⟨D2, M2, L2, lv2, Ms2, AR, nR, cR, AQ, nQ, cQ, col2, rfl, hS2, hK2⟩
        have HS2 := Aside0.mk hS2
        have HK2 := Aside0.mk hK2
        have hd6 := (hK2.keep b6 (blk_lt (blk_drew HX6r.out)) HCB.out.2).trans (blk_drew HX6r.out)
        have hd3 := (hK2.keep b3 (blk_lt (blk_drew HX3r.out)) HCB.out.1).trans (blk_drew HX3r.out)
        have HD6 := Aside0.mk hd6
        have HD3 := Aside0.mk hd3
        have HBD := Aside0.mk (show Below w.heap.size w wD from (below_drew HB.out).trans (hK2.below.mono HW3.out))
        have hSD : wD.cell? ⟨b6, 0, none⟩ = some (.slice AL nL cL) ∧ wD.cell? ⟨b6, 1, none⟩ = some (.int .i64 lv) ∧ wD.cell? ⟨b6, 2, none⟩ = some (.slice AM nM cM) ∧ wD.cell? (ad.add (i * 11)) = some (.int .i64 kd) ∧ wD.cell? ⟨(ad.add (i * 11)).block, (ad.add (i * 11)).off + 1, none⟩ = some (.int .i64 n) ∧ wD.cell? ⟨(ad.add (i * 11)).block, (ad.add (i * 11)).off + 2, none⟩ = some (.string x0) ∧ wD.cell? ⟨(ad.add (i * 11)).block, (ad.add (i * 11)).off + 3, none⟩ = some (.int .i64 x1) ∧ wD.cell? ⟨(ad.add (i * 11)).block, (ad.add (i * 11)).off + 4, none⟩ = some (.int .i64 x2) ∧ wD.cell? ⟨(ad.add (i * 11)).block, (ad.add (i * 11)).off + 5, none⟩ = some (.int .i64 x3) ∧ wD.cell? ⟨(ad.add (i * 11)).block, (ad.add (i * 11)).off + 6, none⟩ = some (.int .i32 x4) ∧ wD.cell? ⟨(ad.add (i * 11)).block, (ad.add (i * 11)).off + 7, none⟩ = some (.int .i64 x5) ∧ wD.cell? ⟨(ad.add (i * 11)).block, (ad.add (i * 11)).off + 8, none⟩ = some (.bool x6) ∧ wD.cell? ⟨(ad.add (i * 11)).block, (ad.add (i * 11)).off + 9, none⟩ = some (.slice A7 n7 c7) ∧ wD.cell? ⟨(ad.add (i * 11)).block, (ad.add (i * 11)).off + 10, none⟩ = some (.slice A2 n2 c2) := ⟨blk_cell hd6 0, blk_cell hd6 1, blk_cell hd6 2, pw_cell_below HBD.out HEL.out.1, pw_cell_below HBD.out HEL.out.2.1, pw_cell_below HBD.out HEL.out.2.2.1, pw_cell_below HBD.out HEL.out.2.2.2.1, pw_cell_below HBD.out HEL.out.2.2.2.2.1, pw_cell_below HBD.out HEL.out.2.2.2.2.2.1, pw_cell_below HBD.out HEL.out.2.2.2.2.2.2.1, pw_cell_below HBD.out HEL.out.2.2.2.2.2.2.2.1, pw_cell_below HBD.out HEL.out.2.2.2.2.2.2.2.2.1, pw_cell_below HBD.out HEL.out.2.2.2.2.2.2.2.2.2.1, pw_cell_below HBD.out HEL.out.2.2.2.2.2.2.2.2.2.2⟩
        have HC2 := Aside0.mk (show col2 b3 = 0 ∧ col2 b6 = 0 from ⟨by rw [hK2.ext b3 (blk_lt (blk_drew HX3r.out))]; exact HCB.out.1, by rw [hK2.ext b6 (blk_lt (blk_drew HX6r.out))]; exact HCB.out.2⟩)
        clear hS2 hK2 hd6 hd3
        go_wp2
        refine hK.out _ _ hSD (fun hHeld => ?_)
        clear hK
        try simp only [Act.put, List.setIfInBounds_toArray, List.set_cons_zero, List.set_cons_succ]
        refine C.tk_take (i := 7) (v := ?_) (by kernel_rfl) (by kernel_rfl) (by kernel_rfl) (fun oi hoi => ?_) rfl
        rotate_left
        simp only [List.getElem?_toArray, List.getElem?_cons_succ, List.getElem?_cons_zero] at hoi
        cases hoi
        refine ⟨fun _ _ _ h => h, Or.inl ⟨by rfl, ?_⟩, by assumption, ?_⟩
        · (intro w hSw; (try dsimp only at hSw); go_simp; all_goals with_reducible rfl)
        try simp only [Act.put, List.setIfInBounds_toArray, List.set_cons_zero, List.set_cons_succ]
        refine C.tk_take (i := 8) (v := ?_) (by kernel_rfl) (by kernel_rfl) (by kernel_rfl) (fun oi hoi => ?_) rfl
        rotate_left
        simp only [List.getElem?_toArray, List.getElem?_cons_succ, List.getElem?_cons_zero] at hoi
        cases hoi
        refine ⟨fun _ _ _ h => h, Or.inl ⟨by rfl, ?_⟩, by assumption, ?_⟩
        · (intro w hSw; (try dsimp only at hSw); go_simp; all_goals with_reducible rfl)
        try simp only [Act.put, List.setIfInBounds_toArray, List.set_cons_zero, List.set_cons_succ]
        refine C.tk_take (i := 9) (v := ?_) (by kernel_rfl) (by kernel_rfl) (by kernel_rfl) (fun oi hoi => ?_) rfl
        rotate_left
        simp only [List.getElem?_toArray, List.getElem?_cons_succ, List.getElem?_cons_zero] at hoi
        cases hoi
        refine ⟨fun _ _ _ h => h, Or.inl ⟨by rfl, ?_⟩, by assumption, ?_⟩
        · (intro w hSw; (try dsimp only at hSw); go_simp; all_goals with_reducible rfl)
        try simp only [Act.put, List.setIfInBounds_toArray, List.set_cons_zero, List.set_cons_succ]
        refine wpAnyH_ready (rs := [10]) (by kernel_rfl) (by simp) ?_
        refine AllReadyH.cons rfl (fun K hK => ?_) AllReadyH.nil
        rw [if_pos (by rfl)]
        go_simp
        refine hK.out _ _ ⟨pw_cell_below (below_alloc (Below.refl _ _) _) (hSD.1), pw_cell_below (below_alloc (Below.refl _ _) _) (hSD.2.1), pw_cell_below (below_alloc (Below.refl _ _) _) (hSD.2.2.1), pw_cell_below (below_alloc (Below.refl _ _) _) (hSD.2.2.2.1), pw_cell_below (below_alloc (Below.refl _ _) _) (hSD.2.2.2.2.1), pw_cell_below (below_alloc (Below.refl _ _) _) (hSD.2.2.2.2.2.1), pw_cell_below (below_alloc (Below.refl _ _) _) (hSD.2.2.2.2.2.2.1), pw_cell_below (below_alloc (Below.refl _ _) _) (hSD.2.2.2.2.2.2.2.1), pw_cell_below (below_alloc (Below.refl _ _) _) (hSD.2.2.2.2.2.2.2.2.1), pw_cell_below (below_alloc (Below.refl _ _) _) (hSD.2.2.2.2.2.2.2.2.2.1), pw_cell_below (below_alloc (Below.refl _ _) _) (hSD.2.2.2.2.2.2.2.2.2.2.1), pw_cell_below (below_alloc (Below.refl _ _) _) (hSD.2.2.2.2.2.2.2.2.2.2.2.1), pw_cell_below (below_alloc (Below.refl _ _) _) (hSD.2.2.2.2.2.2.2.2.2.2.2.2.1), pw_cell_below (below_alloc (Below.refl _ _) _) (hSD.2.2.2.2.2.2.2.2.2.2.2.2.2)⟩ (fun hHeld => ?_)
        clear hK
        try simp only [Act.put, List.setIfInBounds_toArray, List.set_cons_zero, List.set_cons_succ]
        obtain ⟨b8, hb8⟩ : ∃ b8, b8 = wD.heap.size := ⟨_, rfl⟩
        obtain ⟨w8, hw8⟩ : ∃ w8, w8 = wD.alloc (.cells #[.slice none 0 0, .int .i64 0, .slice none 0 0] 31) := ⟨_, rfl⟩
        have hbw8 : Below wD.heap.size wD w8 := by rw [hw8]; exact below_alloc (Below.refl _ _) _
        have hx8 : w8.heap[b8]? = some (.cells #[.slice none 0 0, .int .i64 0, .slice none 0 0] 31 (0, 0)) := by rw [hw8, hb8]; exact blk_new _ _
        have HX8 := Aside0.mk hx8
        have HS8 := Aside0.mk (St.more HS2.out hbw8 b8 (Nat.le_of_eq hb8.symm) (blk_lt hx8))
        have HD68 := Aside0.mk (blk_below HD6.out hbw8)
        have HD38 := Aside0.mk (blk_below HD3.out hbw8)
        have HB8 := Aside0.mk (below_step HBD.out hbw8)
        have HG8 := Aside0.mk (show w.heap.size ≤ b8 by rw [hb8]; exact HBD.out.size)
        have N68 := Aside0.mk (show b6 ≠ b8 from fun e => by have := blk_lt HD6.out; omega)
        have N38 := Aside0.mk (show b3 ≠ b8 from fun e => by have := blk_lt HD3.out; omega)
        have NA8 := Aside0.mk (show (ad.add (i * 11)).block ≠ b8 from fun e => by have h1 := World.block_lt_of_cell? w _ HEL.out.1; rw [e] at h1; have h2 := HG8.out; omega)
        have HC8 := Aside0.mk (show col2 b8 = 0 from HS2.out.is.new b8 (Nat.le_of_eq hb8.symm))
        have hS8 : w8.cell? ⟨b6, 0, none⟩ = some (.slice AL nL cL) ∧ w8.cell? ⟨b6, 1, none⟩ = some (.int .i64 lv) ∧ w8.cell? ⟨b6, 2, none⟩ = some (.slice AM nM cM) ∧ w8.cell? (ad.add (i * 11)) = some (.int .i64 kd) ∧ w8.cell? ⟨(ad.add (i * 11)).block, (ad.add (i * 11)).off + 1, none⟩ = some (.int .i64 n) ∧ w8.cell? ⟨(ad.add (i * 11)).block, (ad.add (i * 11)).off + 2, none⟩ = some (.string x0) ∧ w8.cell? ⟨(ad.add (i * 11)).block, (ad.add (i * 11)).off + 3, none⟩ = some (.int .i64 x1) ∧ w8.cell? ⟨(ad.add (i * 11)).block, (ad.add (i * 11)).off + 4, none⟩ = some (.int .i64 x2) ∧ w8.cell? ⟨(ad.add (i * 11)).block, (ad.add (i * 11)).off + 5, none⟩ = some (.int .i64 x3) ∧ w8.cell? ⟨(ad.add (i * 11)).block, (ad.add (i * 11)).off + 6, none⟩ = some (.int .i32 x4) ∧ w8.cell? ⟨(ad.add (i * 11)).block, (ad.add (i * 11)).off + 7, none⟩ = some (.int .i64 x5) ∧ w8.cell? ⟨(ad.add (i * 11)).block, (ad.add (i * 11)).off + 8, none⟩ = some (.bool x6) ∧ w8.cell? ⟨(ad.add (i * 11)).block, (ad.add (i * 11)).off + 9, none⟩ = some (.slice A7 n7 c7) ∧ w8.cell? ⟨(ad.add (i * 11)).block, (ad.add (i * 11)).off + 10, none⟩ = some (.slice A2 n2 c2) := ⟨blk_cell HD68.out 0, blk_cell HD68.out 1, blk_cell HD68.out 2, pw_cell_below HB8.out HEL.out.1, pw_cell_below HB8.out HEL.out.2.1, pw_cell_below HB8.out HEL.out.2.2.1, pw_cell_below HB8.out HEL.out.2.2.2.1, pw_cell_below HB8.out HEL.out.2.2.2.2.1, pw_cell_below HB8.out HEL.out.2.2.2.2.2.1, pw_cell_below HB8.out HEL.out.2.2.2.2.2.2.1, pw_cell_below HB8.out HEL.out.2.2.2.2.2.2.2.1, pw_cell_below HB8.out HEL.out.2.2.2.2.2.2.2.2.1, pw_cell_below HB8.out HEL.out.2.2.2.2.2.2.2.2.2.1, pw_cell_below HB8.out HEL.out.2.2.2.2.2.2.2.2.2.2⟩
        clear hHeld hSD
        rw [← hw8, ← hb8]
        clear hbw8 hw8 hb8 hx8
        have v0 : w8.cell? ⟨b8, 0, none⟩ = some _ := blk_cell HX8.out 0
        have v1 : w8.cell? ⟨b8, 1, none⟩ = some _ := blk_cell HX8.out 1
        have v2 : w8.cell? ⟨b8, 2, none⟩ = some _ := blk_cell HX8.out 2
        have t0 := blk_frozen HX8.out 0
        have t1 := blk_frozen HX8.out 1
        have t2 := blk_frozen HX8.out 2
        refine wpAnyH_ready (rs := [11]) (by kernel_rfl) (by simp) ?_
        refine AllReadyH.cons rfl (fun K hK => ?_) AllReadyH.nil
        rw [if_pos (by rfl)]
        go_simp
        refine hK.out _ _ ⟨pl_cell (hS8.1) N68.out _ _ _, pl_cell (hS8.2.1) N68.out _ _ _, pl_cell (hS8.2.2.1) N68.out _ _ _, pl_cell (hS8.2.2.2.1) NA8.out _ _ _, pl_cell (hS8.2.2.2.2.1) NA8.out _ _ _, pl_cell (hS8.2.2.2.2.2.1) NA8.out _ _ _, pl_cell (hS8.2.2.2.2.2.2.1) NA8.out _ _ _, pl_cell (hS8.2.2.2.2.2.2.2.1) NA8.out _ _ _, pl_cell (hS8.2.2.2.2.2.2.2.2.1) NA8.out _ _ _, pl_cell (hS8.2.2.2.2.2.2.2.2.2.1) NA8.out _ _ _, pl_cell (hS8.2.2.2.2.2.2.2.2.2.2.1) NA8.out _ _ _, pl_cell (hS8.2.2.2.2.2.2.2.2.2.2.2.1) NA8.out _ _ _, pl_cell (hS8.2.2.2.2.2.2.2.2.2.2.2.2.1) NA8.out _ _ _, pl_cell (hS8.2.2.2.2.2.2.2.2.2.2.2.2.2) NA8.out _ _ _⟩ (fun hHeld => ?_)
        clear hK
        try simp only [Act.put, List.setIfInBounds_toArray, List.set_cons_zero, List.set_cons_succ]
        refine C.tk_take (i := 12) (v := ?_) (by kernel_rfl) (by kernel_rfl) (by kernel_rfl) (fun oi hoi => ?_) rfl
        rotate_left
        simp only [List.getElem?_toArray, List.getElem?_cons_succ, List.getElem?_cons_zero] at hoi
        cases hoi
        refine ⟨fun _ _ _ h => h, Or.inl ⟨by rfl, ?_⟩, by assumption, ?_⟩
        · (intro w hSw; (try dsimp only at hSw); go_simp; all_goals with_reducible rfl)
        try simp only [Act.put, List.setIfInBounds_toArray, List.set_cons_zero, List.set_cons_succ]
        refine wpAnyH_done (by kernel_rfl) ?_ _
        clear v0 v1 v2 t0 t1 t2 hS8
        obtain ⟨W9, hW9⟩ : ∃ W9, (((w8.setCell ⟨b8, 0, none⟩ (.slice AR nR cR)).setCell ⟨b8, 1, none⟩ (.int .i64 lv2)).setCell ⟨b8, 2, none⟩ (.slice AQ nQ cQ)) = W9 := ⟨_, rfl⟩
        have HS9 := Aside0.mk (show St [b3, b6] (i + 1) w3.heap.size W9 g col2 D2 M2 L2 lv2 Ms2 (.slice AR nR cR) (.slice AQ nQ cQ) by rw [← hW9]; exact (St.set3 HS8.out (List.mem_cons_self) HC8.out _ _ _).less (fun b hb => List.mem_cons_of_mem _ hb))
        have HX89 := Aside0.mk (show W9.heap[b8]? = some (.cells #[.slice AR nR cR, .int .i64 lv2, .slice AQ nQ cQ] 31 (0, 0)) by rw [← hW9]; exact sc_put3 HX8.out _ _ _)
        have HX69 := Aside0.mk (show W9.heap[b6]? = some (.cells #[.slice AL nL cL, .int .i64 lv, .slice AM nM cM] 31 (0, 0)) by rw [← hW9]; exact sc_far3 HD68.out N68.out _ _ _)
        have HX39 := Aside0.mk (show W9.heap[b3]? = some (.cells #[.slice none 0 0, .int .i64 0, .slice none 0 0] 31 (0, 0)) by rw [← hW9]; exact sc_far3 HD38.out N38.out _ _ _)
        have HB9 := Aside0.mk (show Below w.heap.size w W9 by rw [← hW9]; exact sc_put3b HB8.out HG8.out _ _ _)
        rw [hW9]
        clear hW9
        have hnR := (Kd.V_at HS9.out.vl).1
        have hnQ := (Kd.V_at HS9.out.vm).1
        subst hnR hnQ
        clear HEL
        go_wp2
        refine wp_region_held_drew (S := fun w' => w'.cell? ⟨b8, 0, none⟩ = some (.slice AR L2.length cR) ∧ w'.cell? ⟨b8, 1, none⟩ = some (.int .i64 lv2) ∧ w'.cell? ⟨b8, 2, none⟩ = some (.slice AQ Ms2.length cQ)) (by kernel_rfl) (show W9.drew.cell? ⟨b8, 0, none⟩ = some (.slice AR L2.length cR) ∧ W9.drew.cell? ⟨b8, 1, none⟩ = some (.int .i64 lv2) ∧ W9.drew.cell? ⟨b8, 2, none⟩ = some (.slice AQ Ms2.length cQ) from ⟨blk_cell (blk_drew HX89.out) 0, blk_cell (blk_drew HX89.out) 1, blk_cell (blk_drew HX89.out) 2⟩) (fun hHeld => ?_)
        refine C.tk_take (i := 0) (v := ?_) (by kernel_rfl) (by kernel_rfl) (by kernel_rfl) (fun oi hoi => ?_) rfl
        rotate_left
        simp only [List.getElem?_toArray, List.getElem?_cons_succ, List.getElem?_cons_zero] at hoi
        cases hoi
        refine ⟨fun _ _ _ h => h, Or.inl ⟨by rfl, ?_⟩, by assumption, ?_⟩
        · (intro w hSw; (try dsimp only at hSw); go_simp; all_goals with_reducible rfl)
        try simp only [Act.put, List.setIfInBounds_toArray, List.set_cons_zero, List.set_cons_succ]
        refine C.tk_take (i := 1) (v := ?_) (by kernel_rfl) (by kernel_rfl) (by kernel_rfl) (fun oi hoi => ?_) rfl
        rotate_left
        simp only [List.getElem?_toArray, List.getElem?_cons_succ, List.getElem?_cons_zero] at hoi
        cases hoi
        refine ⟨fun _ _ _ h => h, Or.inl ⟨by rfl, ?_⟩, by assumption, ?_⟩
        · (intro w hSw; (try dsimp only at hSw); go_simp; all_goals with_reducible rfl)
        try simp only [Act.put, List.setIfInBounds_toArray, List.set_cons_zero, List.set_cons_succ]
        refine C.tk_take (i := 2) (v := ?_) (by kernel_rfl) (by kernel_rfl) (by kernel_rfl) (fun oi hoi => ?_) rfl
        rotate_left
        simp only [List.getElem?_toArray, List.getElem?_cons_succ, List.getElem?_cons_zero] at hoi
        cases hoi
        refine ⟨fun _ _ _ h => h, Or.inl ⟨by rfl, ?_⟩, by assumption, ?_⟩
        · (intro w hSw; (try dsimp only at hSw); go_simp; all_goals with_reducible rfl)
        try simp only [Act.put, List.setIfInBounds_toArray, List.set_cons_zero, List.set_cons_succ]
        refine C.tk_take (i := 3) (v := ?_) (by kernel_rfl) (by kernel_rfl) (by kernel_rfl) (fun oi hoi => ?_) rfl
        rotate_left
        simp only [List.getElem?_toArray, List.getElem?_cons_succ, List.getElem?_cons_zero] at hoi
        cases hoi
        refine ⟨fun _ _ _ h => h, Or.inl ⟨by rfl, ?_⟩, by assumption, ?_⟩
        · (intro w hSw; (try dsimp only at hSw); go_simp; all_goals with_reducible rfl)
        try simp only [Act.put, List.setIfInBounds_toArray, List.set_cons_zero, List.set_cons_succ]
        refine C.tk_take (i := 5) (v := ?_) (by kernel_rfl) (by kernel_rfl) (by kernel_rfl) (fun oi hoi => ?_) rfl
        rotate_left
        simp only [List.getElem?_toArray, List.getElem?_cons_succ, List.getElem?_cons_zero] at hoi
        cases hoi
        refine ⟨fun _ _ _ h => h, Or.inl ⟨by rfl, ?_⟩, by assumption, ?_⟩
        · (intro w hSw; (try dsimp only at hSw); go_simp; all_goals with_reducible rfl)
        try simp only [Act.put, List.setIfInBounds_toArray, List.set_cons_zero, List.set_cons_succ]
        refine C.tk_take (i := 6) (v := ?_) (by kernel_rfl) (by kernel_rfl) (by kernel_rfl) (fun oi hoi => ?_) rfl
        rotate_left
        simp only [List.getElem?_toArray, List.getElem?_cons_succ, List.getElem?_cons_zero] at hoi
        cases hoi
        refine ⟨fun _ _ _ h => h, Or.inl ⟨by rfl, ?_⟩, by assumption, ?_⟩
        · (intro w hSw; (try dsimp only at hSw); go_simp; all_goals with_reducible rfl)
        try simp only [Act.put, List.setIfInBounds_toArray, List.set_cons_zero, List.set_cons_succ]
        refine wpAnyH_ready (rs := [4]) (by kernel_rfl) (by simp) ?_
        refine AllReadyH.cons rfl (fun K hK => ?_) AllReadyH.nil
        rw [if_pos (by rfl)]
        go_simp
        go_at_call 9
        refine (sc_Level_calls (HS9.out.is.below (below_drew (Below.refl _ _)))).mono ?_
        rw [show ((D2.length : Int) - 1) = lv2 from HS9.out.sim.lv.symm]
        rintro e wq ⟨rfl, rfl⟩
        go_wp2
        refine hK.out _ _ (by assumption) (fun hHeld => ?_)
        clear hK
        try simp only [Act.put, List.setIfInBounds_toArray, List.set_cons_zero, List.set_cons_succ]
        refine C.tk_take (i := 7) (v := ?_) (by kernel_rfl) (by kernel_rfl) (by kernel_rfl) (fun oi hoi => ?_) rfl
        rotate_left
        simp only [List.getElem?_toArray, List.getElem?_cons_succ, List.getElem?_cons_zero] at hoi
        cases hoi
        refine ⟨fun _ _ _ h => h, Or.inl ⟨by rfl, ?_⟩, by assumption, ?_⟩
        · (intro w hSw; (try dsimp only at hSw); go_simp; all_goals with_reducible rfl)
        try simp only [Act.put, List.setIfInBounds_toArray, List.set_cons_zero, List.set_cons_succ]
        refine C.tk_take (i := 8) (v := ?_) (by kernel_rfl) (by kernel_rfl) (by kernel_rfl) (fun oi hoi => ?_) rfl
        rotate_left
        simp only [List.getElem?_toArray, List.getElem?_cons_succ, List.getElem?_cons_zero] at hoi
        cases hoi
        refine ⟨fun _ _ _ h => h, Or.inl ⟨by rfl, ?_⟩, by assumption, ?_⟩
        · (intro w hSw; (try dsimp only at hSw); go_simp; all_goals with_reducible rfl)
        try simp only [Act.put, List.setIfInBounds_toArray, List.set_cons_zero, List.set_cons_succ]
        refine C.tk_take (i := 9) (v := ?_) (by kernel_rfl) (by kernel_rfl) (by kernel_rfl) (fun oi hoi => ?_) rfl
        rotate_left
        simp only [List.getElem?_toArray, List.getElem?_cons_succ, List.getElem?_cons_zero] at hoi
        cases hoi
        refine ⟨fun _ _ _ h => h, Or.inl ⟨by rfl, ?_⟩, by assumption, ?_⟩
        · (intro w hSw; (try dsimp only at hSw); go_simp; all_goals with_reducible rfl)
        try simp only [Act.put, List.setIfInBounds_toArray, List.set_cons_zero, List.set_cons_succ]
        refine C.tk_take (i := 10) (v := ?_) (by kernel_rfl) (by kernel_rfl) (by kernel_rfl) (fun oi hoi => ?_) rfl
        rotate_left
        simp only [List.getElem?_toArray, List.getElem?_cons_succ, List.getElem?_cons_zero] at hoi
        cases hoi
        refine ⟨fun _ _ _ h => h, Or.inl ⟨by rfl, ?_⟩, by assumption, ?_⟩
        · (intro w hSw; (try dsimp only at hSw); go_simp; all_goals with_reducible rfl)
        try simp only [Act.put, List.setIfInBounds_toArray, List.set_cons_zero, List.set_cons_succ]
        refine C.tk_take (i := 12) (v := ?_) (by kernel_rfl) (by kernel_rfl) (by kernel_rfl) (fun oi hoi => ?_) rfl
        rotate_left
        simp only [List.getElem?_toArray, List.getElem?_cons_succ, List.getElem?_cons_zero] at hoi
        cases hoi
        refine ⟨fun _ _ _ h => h, Or.inl ⟨by rfl, ?_⟩, by assumption, ?_⟩
        · (intro w hSw; (try dsimp only at hSw); go_simp; all_goals with_reducible rfl)
        try simp only [Act.put, List.setIfInBounds_toArray, List.set_cons_zero, List.set_cons_succ]
        refine wpAnyH_ready (rs := [11]) (by kernel_rfl) (by simp) ?_
        refine AllReadyH.cons rfl (fun K hK => ?_) AllReadyH.nil
        rw [if_pos (by rfl)]
        go_simp
        go_at_call 23
        refine (sc_Names_calls (HS9.out.is.below (below_drew (Below.refl _ _)))).mono ?_
        rintro e wN ⟨v5, rfl, ho, hb⟩
        obtain ⟨A5, c5, rfl⟩ := Kd.R_slice ho
        have HBN := Aside0.mk (below_step (below_drew (Below.refl W9.heap.size W9)) hb)
        have HR5 := Aside0.mk ho
        have hSN : wN.cell? ⟨b8, 0, none⟩ = some (.slice AR L2.length cR) ∧ wN.cell? ⟨b8, 1, none⟩ = some (.int .i64 lv2) ∧ wN.cell? ⟨b8, 2, none⟩ = some (.slice AQ Ms2.length cQ) := ⟨blk_cell (blk_below HX89.out HBN.out) 0, blk_cell (blk_below HX89.out HBN.out) 1, blk_cell (blk_below HX89.out HBN.out) 2⟩
        clear ho hb
        go_wp2
        refine hK.out _ _ hSN (fun hHeld => ?_)
        clear hK
        try simp only [Act.put, List.setIfInBounds_toArray, List.set_cons_zero, List.set_cons_succ]
        refine wpAnyH_ready (rs := [13]) (by kernel_rfl) (by simp) ?_
        refine AllReadyH.cons rfl (fun K hK => ?_) AllReadyH.nil
        rw [if_pos (by rfl)]
        go_simp
        go_at_call 24
        refine (pascalineref11_Names.calls 2000 AR cR L2 lv2 AQ cQ Ms2 (sc_names D2) _ (Kd.C_below (Kd.V_reads' HS9.out.vl).2.2 HBN.out) (Kd.V_reads' HS9.out.vl).2.1 (Kd.C_below (Kd.V_reads' HS9.out.vm).2.2 HBN.out) (Kd.V_reads' HS9.out.vm).2.1 (by rw [rf_names_f L2 (by have h1 := HS9.out.len; have h2 := HH.out; omega) lv2 Ms2 2000 (by have h1 := HS9.out.len; have h2 := HH.out; omega), sim_names HS9.out.sim])).mono ?_
        rintro e wM ⟨v6, rfl, ho, hb⟩
        obtain ⟨A6, c6, rfl⟩ := Kd.R_slice ho
        have HBM := Aside0.mk (below_step HBN.out hb)
        have HR6 := Aside0.mk ho
        have HR56 := Aside0.mk (Kd.R_below HR5.out hb)
        have hSM : wM.cell? ⟨b8, 0, none⟩ = some (.slice AR L2.length cR) ∧ wM.cell? ⟨b8, 1, none⟩ = some (.int .i64 lv2) ∧ wM.cell? ⟨b8, 2, none⟩ = some (.slice AQ Ms2.length cQ) := ⟨blk_cell (blk_below HX89.out HBM.out) 0, blk_cell (blk_below HX89.out HBM.out) 1, blk_cell (blk_below HX89.out HBM.out) 2⟩
        clear ho hb
        go_wp2
        refine hK.out _ _ hSM (fun hHeld => ?_)
        clear hK
        try simp only [Act.put, List.setIfInBounds_toArray, List.set_cons_zero, List.set_cons_succ]
        refine wpAnyH_ready (rs := [14]) (by kernel_rfl) (by simp) ?_
        refine AllReadyH.cons rfl (fun K hK => ?_) AllReadyH.nil
        rw [if_pos (by rfl)]
        go_simp
        go_at_call 22
        refine (pascalinelaw11_names.calls 5000 A5 c5 (sc_names D2) A6 c6 (sc_names D2) true _ (Kd.R_reads' HR56.out).2.2 (Kd.R_reads' HR56.out).2.1 (Kd.R_reads' HR6.out).2.2 (Kd.R_reads' HR6.out).2.1 (names_refl _ (Nat.le_trans (sc_names_len HS9.out.is) (by decide)) 5000 (Nat.lt_of_le_of_lt (sc_names_len HS9.out.is) (by decide)))).mono ?_
        rintro e wP ⟨rfl, hd⟩
        have HBP := Aside0.mk (below_step HBM.out hd.below)
        have hSP : wP.cell? ⟨b8, 0, none⟩ = some (.slice AR L2.length cR) ∧ wP.cell? ⟨b8, 1, none⟩ = some (.int .i64 lv2) ∧ wP.cell? ⟨b8, 2, none⟩ = some (.slice AQ Ms2.length cQ) := ⟨blk_cell (blk_below HX89.out HBP.out) 0, blk_cell (blk_below HX89.out HBP.out) 1, blk_cell (blk_below HX89.out HBP.out) 2⟩
        clear hd
        go_wp2
        refine hK.out _ _ hSP (fun hHeld => ?_)
        clear hK
        try simp only [Act.put, List.setIfInBounds_toArray, List.set_cons_zero, List.set_cons_succ]
        refine C.tk_take (i := 15) (v := ?_) (by kernel_rfl) (by kernel_rfl) (by kernel_rfl) (fun oi hoi => ?_) rfl
        rotate_left
        simp only [List.getElem?_toArray, List.getElem?_cons_succ, List.getElem?_cons_zero] at hoi
        cases hoi
        refine ⟨fun _ _ _ h => h, Or.inl ⟨by rfl, ?_⟩, by assumption, ?_⟩
        · (intro w hSw; (try dsimp only at hSw); go_simp; all_goals with_reducible rfl)
        try simp only [Act.put, List.setIfInBounds_toArray, List.set_cons_zero, List.set_cons_succ]
        refine C.tk_take (i := 16) (v := ?_) (by kernel_rfl) (by kernel_rfl) (by kernel_rfl) (fun oi hoi => ?_) rfl
        rotate_left
        simp only [List.getElem?_toArray, List.getElem?_cons_succ, List.getElem?_cons_zero] at hoi
        cases hoi
        refine ⟨fun _ _ _ h => h, Or.inl ⟨by rfl, ?_⟩, by assumption, ?_⟩
        · (intro w hSw; (try dsimp only at hSw); go_simp; all_goals with_reducible rfl)
        try simp only [Act.put, List.setIfInBounds_toArray, List.set_cons_zero, List.set_cons_succ]
        refine wpAnyH_done (by kernel_rfl) ?_ _
        have HP6 := Aside0.mk (blk_below HX69.out HBP.out)
        have HP3 := Aside0.mk (blk_below HX39.out HBP.out)
        obtain ⟨g0, g1, g2⟩ := hSP
        have u0 : wP.cell? ⟨b6, 0, none⟩ = some _ := blk_cell HP6.out 0
        have u1 : wP.cell? ⟨b6, 1, none⟩ = some _ := blk_cell HP6.out 1
        have u2 : wP.cell? ⟨b6, 2, none⟩ = some _ := blk_cell HP6.out 2
        have s0 := blk_frozen HP6.out 0
        have s1 := blk_frozen HP6.out 1
        have s2 := blk_frozen HP6.out 2
        go_wp2
        go_roundg (100 - i)
        case measure => have h1 := HI.out; have h2 := HH.out; omega
        case rel => exact ⟨i + 1, D2, M2, L2, lv2, Ms2, AR, L2.length, cR, AQ, Ms2.length, cQ, col2, (by first | rfl | (simp; done)), ⟨by have h1 := HI.out; have h2 := HH.out; omega⟩, ⟨below_set (below_set (below_set (HB9.out.trans (HBP.out.mono HB9.out.size)) HG6w.out) HG6w.out) HG6w.out⟩, ⟨(HS9.out.below HBP.out).set3 (by simp) HC2.out.2 _ _ _⟩, ⟨sc_put3 HP6.out _ _ _⟩, ⟨sc_far3 HP3.out N36.out _ _ _⟩, HC2⟩
      · skip
        rw [if_pos (by rfl)]
        go_simp
        refine hK.out _ _ ⟨pw_cell_below (below_alloc (Below.refl _ _) _) (hHeld.1), pw_cell_below (below_alloc (Below.refl _ _) _) (hHeld.2.1), pw_cell_below (below_alloc (Below.refl _ _) _) (hHeld.2.2.1), pw_cell_below (below_alloc (Below.refl _ _) _) (hHeld.2.2.2.1), pw_cell_below (below_alloc (Below.refl _ _) _) (hHeld.2.2.2.2.1), pw_cell_below (below_alloc (Below.refl _ _) _) (hHeld.2.2.2.2.2.1), pw_cell_below (below_alloc (Below.refl _ _) _) (hHeld.2.2.2.2.2.2.1), pw_cell_below (below_alloc (Below.refl _ _) _) (hHeld.2.2.2.2.2.2.2.1), pw_cell_below (below_alloc (Below.refl _ _) _) (hHeld.2.2.2.2.2.2.2.2.1), pw_cell_below (below_alloc (Below.refl _ _) _) (hHeld.2.2.2.2.2.2.2.2.2.1), pw_cell_below (below_alloc (Below.refl _ _) _) (hHeld.2.2.2.2.2.2.2.2.2.2.1), pw_cell_below (below_alloc (Below.refl _ _) _) (hHeld.2.2.2.2.2.2.2.2.2.2.2.1), pw_cell_below (below_alloc (Below.refl _ _) _) (hHeld.2.2.2.2.2.2.2.2.2.2.2.2.1), pw_cell_below (below_alloc (Below.refl _ _) _) (hHeld.2.2.2.2.2.2.2.2.2.2.2.2.2)⟩ (fun hHeld => ?_)
        clear hK
        try simp only [Act.put, List.setIfInBounds_toArray, List.set_cons_zero, List.set_cons_succ]
        obtain ⟨b8, hb8⟩ : ∃ b8, b8 = wr.heap.size := ⟨_, rfl⟩
        obtain ⟨w8, hw8⟩ : ∃ w8, w8 = (wr.alloc (.cells #[.slice none 0 0, .int .i64 0, .slice none 0 0] 31)).drew := ⟨_, rfl⟩
        have hbw8 : Below wr.drew.heap.size wr.drew w8 := by rw [hw8]; exact (show Below wr.drew.heap.size wr.drew (wr.drew.alloc (.cells #[.slice none 0 0, .int .i64 0, .slice none 0 0] 31)) from below_alloc (Below.refl _ _) _)
        have hx8 : w8.heap[b8]? = some (.cells #[.slice none 0 0, .int .i64 0, .slice none 0 0] 31 (0, 0)) := by rw [hw8, hb8]; exact blk_new wr _
        have HX8 := Aside0.mk hx8
        have hS80 := St.more (HSt.out.below (below_drew (Below.refl _ _))) hbw8 b8 (Nat.le_of_eq hb8.symm) (blk_lt hx8)
        have HS80 := Aside0.mk hS80
        have HD68 := Aside0.mk (blk_below (blk_drew HX6r.out) hbw8)
        have HD38 := Aside0.mk (blk_below (blk_drew HX3r.out) hbw8)
        have HB8 := Aside0.mk (below_step (below_drew HB.out) hbw8)
        have HG8 := Aside0.mk (show w.heap.size ≤ b8 by rw [hb8]; exact (below_drew HB.out).size)
        have N68 := Aside0.mk (show b6 ≠ b8 from fun e => by have := blk_lt HX6r.out; have h2 : b8 = wr.heap.size := hb8; omega)
        have N38 := Aside0.mk (show b3 ≠ b8 from fun e => by have := blk_lt HX3r.out; have h2 : b8 = wr.heap.size := hb8; omega)
        have NA8 := Aside0.mk (show (ad.add (i * 11)).block ≠ b8 from fun e => by have h1 := World.block_lt_of_cell? w _ HEL.out.1; rw [e] at h1; have h2 := HG8.out; omega)
        have HC80 := Aside0.mk (show col b8 = 0 from HSt.out.is.new b8 (Nat.le_of_eq hb8.symm))
        have HV78 := Aside0.mk (Kd.V_below (Kd.V_drew (HV7.out (b8 :: [b3, b6]) (fun b hb => by rcases List.mem_cons.1 hb with rfl | hb; exact HG8.out; exact HBX.out b hb))) hbw8)
        have HV28 := Aside0.mk (Kd.V_below (Kd.V_drew (HV2.out (b8 :: [b3, b6]) (fun b hb => by rcases List.mem_cons.1 hb with rfl | hb; exact HG8.out; exact HBX.out b hb))) hbw8)
        have hS8 : w8.cell? ⟨b6, 0, none⟩ = some (.slice AL nL cL) ∧ w8.cell? ⟨b6, 1, none⟩ = some (.int .i64 lv) ∧ w8.cell? ⟨b6, 2, none⟩ = some (.slice AM nM cM) ∧ w8.cell? (ad.add (i * 11)) = some (.int .i64 kd) ∧ w8.cell? ⟨(ad.add (i * 11)).block, (ad.add (i * 11)).off + 1, none⟩ = some (.int .i64 n) ∧ w8.cell? ⟨(ad.add (i * 11)).block, (ad.add (i * 11)).off + 2, none⟩ = some (.string x0) ∧ w8.cell? ⟨(ad.add (i * 11)).block, (ad.add (i * 11)).off + 3, none⟩ = some (.int .i64 x1) ∧ w8.cell? ⟨(ad.add (i * 11)).block, (ad.add (i * 11)).off + 4, none⟩ = some (.int .i64 x2) ∧ w8.cell? ⟨(ad.add (i * 11)).block, (ad.add (i * 11)).off + 5, none⟩ = some (.int .i64 x3) ∧ w8.cell? ⟨(ad.add (i * 11)).block, (ad.add (i * 11)).off + 6, none⟩ = some (.int .i32 x4) ∧ w8.cell? ⟨(ad.add (i * 11)).block, (ad.add (i * 11)).off + 7, none⟩ = some (.int .i64 x5) ∧ w8.cell? ⟨(ad.add (i * 11)).block, (ad.add (i * 11)).off + 8, none⟩ = some (.bool x6) ∧ w8.cell? ⟨(ad.add (i * 11)).block, (ad.add (i * 11)).off + 9, none⟩ = some (.slice A7 n7 c7) ∧ w8.cell? ⟨(ad.add (i * 11)).block, (ad.add (i * 11)).off + 10, none⟩ = some (.slice A2 n2 c2) := ⟨blk_cell HD68.out 0, blk_cell HD68.out 1, blk_cell HD68.out 2, pw_cell_below HB8.out HEL.out.1, pw_cell_below HB8.out HEL.out.2.1, pw_cell_below HB8.out HEL.out.2.2.1, pw_cell_below HB8.out HEL.out.2.2.2.1, pw_cell_below HB8.out HEL.out.2.2.2.2.1, pw_cell_below HB8.out HEL.out.2.2.2.2.2.1, pw_cell_below HB8.out HEL.out.2.2.2.2.2.2.1, pw_cell_below HB8.out HEL.out.2.2.2.2.2.2.2.1, pw_cell_below HB8.out HEL.out.2.2.2.2.2.2.2.2.1, pw_cell_below HB8.out HEL.out.2.2.2.2.2.2.2.2.2.1, pw_cell_below HB8.out HEL.out.2.2.2.2.2.2.2.2.2.2⟩
        clear hHeld hS80
        rw [← hw8, ← hb8]
        clear hbw8 hw8 hb8 hx8
        refine wpAnyH_ready (rs := [6]) (by kernel_rfl) (by simp) ?_
        refine AllReadyH.cons rfl (fun K hK => ?_) AllReadyH.nil
        rw [if_pos (by rfl)]
        go_simp
        go_at_call 21
        refine (sc_do_calls (bx := (b8 :: [b3, b6])) HS80.out (by have := HI.out; have := HH.out; omega) kd n (⟨x0, x1, x2, x3, x4, x5, x6, x7⟩ : SO) _ _ l2 HV78.out HV28.out HSM7.out HSM2.out HSME.out).mono ?_
        rintro e wD ⟨D2, M2, L2, lv2, Ms2, AR, nR, cR, AQ, nQ, cQ, col2, rfl, hS2, hK2⟩
        have HS2 := Aside0.mk hS2
        have HK2 := Aside0.mk hK2
        have hd6 := (hK2.keep b6 (blk_lt HD68.out) HCB.out.2).trans HD68.out
        have hd3 := (hK2.keep b3 (blk_lt HD38.out) HCB.out.1).trans HD38.out
        have HD6 := Aside0.mk hd6
        have HD3 := Aside0.mk hd3
        have HBD := Aside0.mk (show Below w.heap.size w wD from HB8.out.trans (hK2.below.mono HW3.out))
        have hSD : wD.cell? ⟨b6, 0, none⟩ = some (.slice AL nL cL) ∧ wD.cell? ⟨b6, 1, none⟩ = some (.int .i64 lv) ∧ wD.cell? ⟨b6, 2, none⟩ = some (.slice AM nM cM) ∧ wD.cell? (ad.add (i * 11)) = some (.int .i64 kd) ∧ wD.cell? ⟨(ad.add (i * 11)).block, (ad.add (i * 11)).off + 1, none⟩ = some (.int .i64 n) ∧ wD.cell? ⟨(ad.add (i * 11)).block, (ad.add (i * 11)).off + 2, none⟩ = some (.string x0) ∧ wD.cell? ⟨(ad.add (i * 11)).block, (ad.add (i * 11)).off + 3, none⟩ = some (.int .i64 x1) ∧ wD.cell? ⟨(ad.add (i * 11)).block, (ad.add (i * 11)).off + 4, none⟩ = some (.int .i64 x2) ∧ wD.cell? ⟨(ad.add (i * 11)).block, (ad.add (i * 11)).off + 5, none⟩ = some (.int .i64 x3) ∧ wD.cell? ⟨(ad.add (i * 11)).block, (ad.add (i * 11)).off + 6, none⟩ = some (.int .i32 x4) ∧ wD.cell? ⟨(ad.add (i * 11)).block, (ad.add (i * 11)).off + 7, none⟩ = some (.int .i64 x5) ∧ wD.cell? ⟨(ad.add (i * 11)).block, (ad.add (i * 11)).off + 8, none⟩ = some (.bool x6) ∧ wD.cell? ⟨(ad.add (i * 11)).block, (ad.add (i * 11)).off + 9, none⟩ = some (.slice A7 n7 c7) ∧ wD.cell? ⟨(ad.add (i * 11)).block, (ad.add (i * 11)).off + 10, none⟩ = some (.slice A2 n2 c2) := ⟨blk_cell hd6 0, blk_cell hd6 1, blk_cell hd6 2, pw_cell_below HBD.out HEL.out.1, pw_cell_below HBD.out HEL.out.2.1, pw_cell_below HBD.out HEL.out.2.2.1, pw_cell_below HBD.out HEL.out.2.2.2.1, pw_cell_below HBD.out HEL.out.2.2.2.2.1, pw_cell_below HBD.out HEL.out.2.2.2.2.2.1, pw_cell_below HBD.out HEL.out.2.2.2.2.2.2.1, pw_cell_below HBD.out HEL.out.2.2.2.2.2.2.2.1, pw_cell_below HBD.out HEL.out.2.2.2.2.2.2.2.2.1, pw_cell_below HBD.out HEL.out.2.2.2.2.2.2.2.2.2.1, pw_cell_below HBD.out HEL.out.2.2.2.2.2.2.2.2.2.2⟩
        have HC2 := Aside0.mk (show col2 b3 = 0 ∧ col2 b6 = 0 from ⟨by rw [hK2.ext b3 (blk_lt HD38.out)]; exact HCB.out.1, by rw [hK2.ext b6 (blk_lt HD68.out)]; exact HCB.out.2⟩)
        have HDX8 := Aside0.mk ((hK2.keep b8 (blk_lt HX8.out) HC80.out).trans HX8.out)
        have HC8 := Aside0.mk (show col2 b8 = 0 by rw [hK2.ext b8 (blk_lt HX8.out)]; exact HC80.out)
        clear hS2 hK2 hd6 hd3
        go_wp2
        refine hK.out _ _ hSD (fun hHeld => ?_)
        clear hK
        try simp only [Act.put, List.setIfInBounds_toArray, List.set_cons_zero, List.set_cons_succ]
        refine C.tk_take (i := 7) (v := ?_) (by kernel_rfl) (by kernel_rfl) (by kernel_rfl) (fun oi hoi => ?_) rfl
        rotate_left
        simp only [List.getElem?_toArray, List.getElem?_cons_succ, List.getElem?_cons_zero] at hoi
        cases hoi
        refine ⟨fun _ _ _ h => h, Or.inl ⟨by rfl, ?_⟩, by assumption, ?_⟩
        · (intro w hSw; (try dsimp only at hSw); go_simp; all_goals with_reducible rfl)
        try simp only [Act.put, List.setIfInBounds_toArray, List.set_cons_zero, List.set_cons_succ]
        refine C.tk_take (i := 8) (v := ?_) (by kernel_rfl) (by kernel_rfl) (by kernel_rfl) (fun oi hoi => ?_) rfl
        rotate_left
        simp only [List.getElem?_toArray, List.getElem?_cons_succ, List.getElem?_cons_zero] at hoi
        cases hoi
        refine ⟨fun _ _ _ h => h, Or.inl ⟨by rfl, ?_⟩, by assumption, ?_⟩
        · (intro w hSw; (try dsimp only at hSw); go_simp; all_goals with_reducible rfl)
        try simp only [Act.put, List.setIfInBounds_toArray, List.set_cons_zero, List.set_cons_succ]
        refine C.tk_take (i := 9) (v := ?_) (by kernel_rfl) (by kernel_rfl) (by kernel_rfl) (fun oi hoi => ?_) rfl
        rotate_left
        simp only [List.getElem?_toArray, List.getElem?_cons_succ, List.getElem?_cons_zero] at hoi
        cases hoi
        refine ⟨fun _ _ _ h => h, Or.inl ⟨by rfl, ?_⟩, by assumption, ?_⟩
        · (intro w hSw; (try dsimp only at hSw); go_simp; all_goals with_reducible rfl)
        try simp only [Act.put, List.setIfInBounds_toArray, List.set_cons_zero, List.set_cons_succ]
        have v0 : wD.cell? ⟨b8, 0, none⟩ = some _ := blk_cell HDX8.out 0
        have v1 : wD.cell? ⟨b8, 1, none⟩ = some _ := blk_cell HDX8.out 1
        have v2 : wD.cell? ⟨b8, 2, none⟩ = some _ := blk_cell HDX8.out 2
        have t0 := blk_frozen HDX8.out 0
        have t1 := blk_frozen HDX8.out 1
        have t2 := blk_frozen HDX8.out 2
        refine wpAnyH_ready (rs := [11]) (by kernel_rfl) (by simp) ?_
        refine AllReadyH.cons rfl (fun K hK => ?_) AllReadyH.nil
        rw [if_pos (by rfl)]
        go_simp
        refine hK.out _ _ ⟨pl_cell (hSD.1) N68.out _ _ _, pl_cell (hSD.2.1) N68.out _ _ _, pl_cell (hSD.2.2.1) N68.out _ _ _, pl_cell (hSD.2.2.2.1) NA8.out _ _ _, pl_cell (hSD.2.2.2.2.1) NA8.out _ _ _, pl_cell (hSD.2.2.2.2.2.1) NA8.out _ _ _, pl_cell (hSD.2.2.2.2.2.2.1) NA8.out _ _ _, pl_cell (hSD.2.2.2.2.2.2.2.1) NA8.out _ _ _, pl_cell (hSD.2.2.2.2.2.2.2.2.1) NA8.out _ _ _, pl_cell (hSD.2.2.2.2.2.2.2.2.2.1) NA8.out _ _ _, pl_cell (hSD.2.2.2.2.2.2.2.2.2.2.1) NA8.out _ _ _, pl_cell (hSD.2.2.2.2.2.2.2.2.2.2.2.1) NA8.out _ _ _, pl_cell (hSD.2.2.2.2.2.2.2.2.2.2.2.2.1) NA8.out _ _ _, pl_cell (hSD.2.2.2.2.2.2.2.2.2.2.2.2.2) NA8.out _ _ _⟩ (fun hHeld => ?_)
        clear hK
        try simp only [Act.put, List.setIfInBounds_toArray, List.set_cons_zero, List.set_cons_succ]
        refine C.tk_take (i := 12) (v := ?_) (by kernel_rfl) (by kernel_rfl) (by kernel_rfl) (fun oi hoi => ?_) rfl
        rotate_left
        simp only [List.getElem?_toArray, List.getElem?_cons_succ, List.getElem?_cons_zero] at hoi
        cases hoi
        refine ⟨fun _ _ _ h => h, Or.inl ⟨by rfl, ?_⟩, by assumption, ?_⟩
        · (intro w hSw; (try dsimp only at hSw); go_simp; all_goals with_reducible rfl)
        try simp only [Act.put, List.setIfInBounds_toArray, List.set_cons_zero, List.set_cons_succ]
        refine wpAnyH_done (by kernel_rfl) ?_ _
        clear v0 v1 v2 t0 t1 t2 hSD
        obtain ⟨W9, hW9⟩ : ∃ W9, (((wD.setCell ⟨b8, 0, none⟩ (.slice AR nR cR)).setCell ⟨b8, 1, none⟩ (.int .i64 lv2)).setCell ⟨b8, 2, none⟩ (.slice AQ nQ cQ)) = W9 := ⟨_, rfl⟩
        have HS9 := Aside0.mk (show St [b3, b6] (i + 1) w3.heap.size W9 g col2 D2 M2 L2 lv2 Ms2 (.slice AR nR cR) (.slice AQ nQ cQ) by rw [← hW9]; exact (St.set3 HS2.out (List.mem_cons_self) HC8.out _ _ _).less (fun b hb => List.mem_cons_of_mem _ hb))
        have HX89 := Aside0.mk (show W9.heap[b8]? = some (.cells #[.slice AR nR cR, .int .i64 lv2, .slice AQ nQ cQ] 31 (0, 0)) by rw [← hW9]; exact sc_put3 HDX8.out _ _ _)
        have HX69 := Aside0.mk (show W9.heap[b6]? = some (.cells #[.slice AL nL cL, .int .i64 lv, .slice AM nM cM] 31 (0, 0)) by rw [← hW9]; exact sc_far3 HD6.out N68.out _ _ _)
        have HX39 := Aside0.mk (show W9.heap[b3]? = some (.cells #[.slice none 0 0, .int .i64 0, .slice none 0 0] 31 (0, 0)) by rw [← hW9]; exact sc_far3 HD3.out N38.out _ _ _)
        have HB9 := Aside0.mk (show Below w.heap.size w W9 by rw [← hW9]; exact sc_put3b HBD.out HG8.out _ _ _)
        rw [hW9]
        clear hW9
        have hnR := (Kd.V_at HS9.out.vl).1
        have hnQ := (Kd.V_at HS9.out.vm).1
        subst hnR hnQ
        clear HEL
        go_wp2
        refine wp_region_held_drew (S := fun w' => w'.cell? ⟨b8, 0, none⟩ = some (.slice AR L2.length cR) ∧ w'.cell? ⟨b8, 1, none⟩ = some (.int .i64 lv2) ∧ w'.cell? ⟨b8, 2, none⟩ = some (.slice AQ Ms2.length cQ)) (by kernel_rfl) (show W9.drew.cell? ⟨b8, 0, none⟩ = some (.slice AR L2.length cR) ∧ W9.drew.cell? ⟨b8, 1, none⟩ = some (.int .i64 lv2) ∧ W9.drew.cell? ⟨b8, 2, none⟩ = some (.slice AQ Ms2.length cQ) from ⟨blk_cell (blk_drew HX89.out) 0, blk_cell (blk_drew HX89.out) 1, blk_cell (blk_drew HX89.out) 2⟩) (fun hHeld => ?_)
        refine C.tk_take (i := 0) (v := ?_) (by kernel_rfl) (by kernel_rfl) (by kernel_rfl) (fun oi hoi => ?_) rfl
        rotate_left
        simp only [List.getElem?_toArray, List.getElem?_cons_succ, List.getElem?_cons_zero] at hoi
        cases hoi
        refine ⟨fun _ _ _ h => h, Or.inl ⟨by rfl, ?_⟩, by assumption, ?_⟩
        · (intro w hSw; (try dsimp only at hSw); go_simp; all_goals with_reducible rfl)
        try simp only [Act.put, List.setIfInBounds_toArray, List.set_cons_zero, List.set_cons_succ]
        refine C.tk_take (i := 1) (v := ?_) (by kernel_rfl) (by kernel_rfl) (by kernel_rfl) (fun oi hoi => ?_) rfl
        rotate_left
        simp only [List.getElem?_toArray, List.getElem?_cons_succ, List.getElem?_cons_zero] at hoi
        cases hoi
        refine ⟨fun _ _ _ h => h, Or.inl ⟨by rfl, ?_⟩, by assumption, ?_⟩
        · (intro w hSw; (try dsimp only at hSw); go_simp; all_goals with_reducible rfl)
        try simp only [Act.put, List.setIfInBounds_toArray, List.set_cons_zero, List.set_cons_succ]
        refine C.tk_take (i := 2) (v := ?_) (by kernel_rfl) (by kernel_rfl) (by kernel_rfl) (fun oi hoi => ?_) rfl
        rotate_left
        simp only [List.getElem?_toArray, List.getElem?_cons_succ, List.getElem?_cons_zero] at hoi
        cases hoi
        refine ⟨fun _ _ _ h => h, Or.inl ⟨by rfl, ?_⟩, by assumption, ?_⟩
        · (intro w hSw; (try dsimp only at hSw); go_simp; all_goals with_reducible rfl)
        try simp only [Act.put, List.setIfInBounds_toArray, List.set_cons_zero, List.set_cons_succ]
        refine C.tk_take (i := 3) (v := ?_) (by kernel_rfl) (by kernel_rfl) (by kernel_rfl) (fun oi hoi => ?_) rfl
        rotate_left
        simp only [List.getElem?_toArray, List.getElem?_cons_succ, List.getElem?_cons_zero] at hoi
        cases hoi
        refine ⟨fun _ _ _ h => h, Or.inl ⟨by rfl, ?_⟩, by assumption, ?_⟩
        · (intro w hSw; (try dsimp only at hSw); go_simp; all_goals with_reducible rfl)
        try simp only [Act.put, List.setIfInBounds_toArray, List.set_cons_zero, List.set_cons_succ]
        refine C.tk_take (i := 5) (v := ?_) (by kernel_rfl) (by kernel_rfl) (by kernel_rfl) (fun oi hoi => ?_) rfl
        rotate_left
        simp only [List.getElem?_toArray, List.getElem?_cons_succ, List.getElem?_cons_zero] at hoi
        cases hoi
        refine ⟨fun _ _ _ h => h, Or.inl ⟨by rfl, ?_⟩, by assumption, ?_⟩
        · (intro w hSw; (try dsimp only at hSw); go_simp; all_goals with_reducible rfl)
        try simp only [Act.put, List.setIfInBounds_toArray, List.set_cons_zero, List.set_cons_succ]
        refine C.tk_take (i := 6) (v := ?_) (by kernel_rfl) (by kernel_rfl) (by kernel_rfl) (fun oi hoi => ?_) rfl
        rotate_left
        simp only [List.getElem?_toArray, List.getElem?_cons_succ, List.getElem?_cons_zero] at hoi
        cases hoi
        refine ⟨fun _ _ _ h => h, Or.inl ⟨by rfl, ?_⟩, by assumption, ?_⟩
        · (intro w hSw; (try dsimp only at hSw); go_simp; all_goals with_reducible rfl)
        try simp only [Act.put, List.setIfInBounds_toArray, List.set_cons_zero, List.set_cons_succ]
        refine wpAnyH_ready (rs := [4]) (by kernel_rfl) (by simp) ?_
        refine AllReadyH.cons rfl (fun K hK => ?_) AllReadyH.nil
        rw [if_pos (by rfl)]
        go_simp
        go_at_call 9
        refine (sc_Level_calls (HS9.out.is.below (below_drew (Below.refl _ _)))).mono ?_
        rw [show ((D2.length : Int) - 1) = lv2 from HS9.out.sim.lv.symm]
        rintro e wq ⟨rfl, rfl⟩
        go_wp2
        refine hK.out _ _ (by assumption) (fun hHeld => ?_)
        clear hK
        try simp only [Act.put, List.setIfInBounds_toArray, List.set_cons_zero, List.set_cons_succ]
        refine C.tk_take (i := 7) (v := ?_) (by kernel_rfl) (by kernel_rfl) (by kernel_rfl) (fun oi hoi => ?_) rfl
        rotate_left
        simp only [List.getElem?_toArray, List.getElem?_cons_succ, List.getElem?_cons_zero] at hoi
        cases hoi
        refine ⟨fun _ _ _ h => h, Or.inl ⟨by rfl, ?_⟩, by assumption, ?_⟩
        · (intro w hSw; (try dsimp only at hSw); go_simp; all_goals with_reducible rfl)
        try simp only [Act.put, List.setIfInBounds_toArray, List.set_cons_zero, List.set_cons_succ]
        refine C.tk_take (i := 8) (v := ?_) (by kernel_rfl) (by kernel_rfl) (by kernel_rfl) (fun oi hoi => ?_) rfl
        rotate_left
        simp only [List.getElem?_toArray, List.getElem?_cons_succ, List.getElem?_cons_zero] at hoi
        cases hoi
        refine ⟨fun _ _ _ h => h, Or.inl ⟨by rfl, ?_⟩, by assumption, ?_⟩
        · (intro w hSw; (try dsimp only at hSw); go_simp; all_goals with_reducible rfl)
        try simp only [Act.put, List.setIfInBounds_toArray, List.set_cons_zero, List.set_cons_succ]
        refine C.tk_take (i := 9) (v := ?_) (by kernel_rfl) (by kernel_rfl) (by kernel_rfl) (fun oi hoi => ?_) rfl
        rotate_left
        simp only [List.getElem?_toArray, List.getElem?_cons_succ, List.getElem?_cons_zero] at hoi
        cases hoi
        refine ⟨fun _ _ _ h => h, Or.inl ⟨by rfl, ?_⟩, by assumption, ?_⟩
        · (intro w hSw; (try dsimp only at hSw); go_simp; all_goals with_reducible rfl)
        try simp only [Act.put, List.setIfInBounds_toArray, List.set_cons_zero, List.set_cons_succ]
        refine C.tk_take (i := 10) (v := ?_) (by kernel_rfl) (by kernel_rfl) (by kernel_rfl) (fun oi hoi => ?_) rfl
        rotate_left
        simp only [List.getElem?_toArray, List.getElem?_cons_succ, List.getElem?_cons_zero] at hoi
        cases hoi
        refine ⟨fun _ _ _ h => h, Or.inl ⟨by rfl, ?_⟩, by assumption, ?_⟩
        · (intro w hSw; (try dsimp only at hSw); go_simp; all_goals with_reducible rfl)
        try simp only [Act.put, List.setIfInBounds_toArray, List.set_cons_zero, List.set_cons_succ]
        refine C.tk_take (i := 12) (v := ?_) (by kernel_rfl) (by kernel_rfl) (by kernel_rfl) (fun oi hoi => ?_) rfl
        rotate_left
        simp only [List.getElem?_toArray, List.getElem?_cons_succ, List.getElem?_cons_zero] at hoi
        cases hoi
        refine ⟨fun _ _ _ h => h, Or.inl ⟨by rfl, ?_⟩, by assumption, ?_⟩
        · (intro w hSw; (try dsimp only at hSw); go_simp; all_goals with_reducible rfl)
        try simp only [Act.put, List.setIfInBounds_toArray, List.set_cons_zero, List.set_cons_succ]
        refine wpAnyH_ready (rs := [11]) (by kernel_rfl) (by simp) ?_
        refine AllReadyH.cons rfl (fun K hK => ?_) AllReadyH.nil
        rw [if_pos (by rfl)]
        go_simp
        go_at_call 23
        refine (sc_Names_calls (HS9.out.is.below (below_drew (Below.refl _ _)))).mono ?_
        rintro e wN ⟨v5, rfl, ho, hb⟩
        obtain ⟨A5, c5, rfl⟩ := Kd.R_slice ho
        have HBN := Aside0.mk (below_step (below_drew (Below.refl W9.heap.size W9)) hb)
        have HR5 := Aside0.mk ho
        have hSN : wN.cell? ⟨b8, 0, none⟩ = some (.slice AR L2.length cR) ∧ wN.cell? ⟨b8, 1, none⟩ = some (.int .i64 lv2) ∧ wN.cell? ⟨b8, 2, none⟩ = some (.slice AQ Ms2.length cQ) := ⟨blk_cell (blk_below HX89.out HBN.out) 0, blk_cell (blk_below HX89.out HBN.out) 1, blk_cell (blk_below HX89.out HBN.out) 2⟩
        clear ho hb
        go_wp2
        refine hK.out _ _ hSN (fun hHeld => ?_)
        clear hK
        try simp only [Act.put, List.setIfInBounds_toArray, List.set_cons_zero, List.set_cons_succ]
        refine wpAnyH_ready (rs := [13]) (by kernel_rfl) (by simp) ?_
        refine AllReadyH.cons rfl (fun K hK => ?_) AllReadyH.nil
        rw [if_pos (by rfl)]
        go_simp
        go_at_call 24
        refine (pascalineref11_Names.calls 2000 AR cR L2 lv2 AQ cQ Ms2 (sc_names D2) _ (Kd.C_below (Kd.V_reads' HS9.out.vl).2.2 HBN.out) (Kd.V_reads' HS9.out.vl).2.1 (Kd.C_below (Kd.V_reads' HS9.out.vm).2.2 HBN.out) (Kd.V_reads' HS9.out.vm).2.1 (by rw [rf_names_f L2 (by have h1 := HS9.out.len; have h2 := HH.out; omega) lv2 Ms2 2000 (by have h1 := HS9.out.len; have h2 := HH.out; omega), sim_names HS9.out.sim])).mono ?_
        rintro e wM ⟨v6, rfl, ho, hb⟩
        obtain ⟨A6, c6, rfl⟩ := Kd.R_slice ho
        have HBM := Aside0.mk (below_step HBN.out hb)
        have HR6 := Aside0.mk ho
        have HR56 := Aside0.mk (Kd.R_below HR5.out hb)
        have hSM : wM.cell? ⟨b8, 0, none⟩ = some (.slice AR L2.length cR) ∧ wM.cell? ⟨b8, 1, none⟩ = some (.int .i64 lv2) ∧ wM.cell? ⟨b8, 2, none⟩ = some (.slice AQ Ms2.length cQ) := ⟨blk_cell (blk_below HX89.out HBM.out) 0, blk_cell (blk_below HX89.out HBM.out) 1, blk_cell (blk_below HX89.out HBM.out) 2⟩
        clear ho hb
        go_wp2
        refine hK.out _ _ hSM (fun hHeld => ?_)
        clear hK
        try simp only [Act.put, List.setIfInBounds_toArray, List.set_cons_zero, List.set_cons_succ]
        refine wpAnyH_ready (rs := [14]) (by kernel_rfl) (by simp) ?_
        refine AllReadyH.cons rfl (fun K hK => ?_) AllReadyH.nil
        rw [if_pos (by rfl)]
        go_simp
        go_at_call 22
        refine (pascalinelaw11_names.calls 5000 A5 c5 (sc_names D2) A6 c6 (sc_names D2) true _ (Kd.R_reads' HR56.out).2.2 (Kd.R_reads' HR56.out).2.1 (Kd.R_reads' HR6.out).2.2 (Kd.R_reads' HR6.out).2.1 (names_refl _ (Nat.le_trans (sc_names_len HS9.out.is) (by decide)) 5000 (Nat.lt_of_le_of_lt (sc_names_len HS9.out.is) (by decide)))).mono ?_
        rintro e wP ⟨rfl, hd⟩
        have HBP := Aside0.mk (below_step HBM.out hd.below)
        have hSP : wP.cell? ⟨b8, 0, none⟩ = some (.slice AR L2.length cR) ∧ wP.cell? ⟨b8, 1, none⟩ = some (.int .i64 lv2) ∧ wP.cell? ⟨b8, 2, none⟩ = some (.slice AQ Ms2.length cQ) := ⟨blk_cell (blk_below HX89.out HBP.out) 0, blk_cell (blk_below HX89.out HBP.out) 1, blk_cell (blk_below HX89.out HBP.out) 2⟩
        clear hd
        go_wp2
        refine hK.out _ _ hSP (fun hHeld => ?_)
        clear hK
        try simp only [Act.put, List.setIfInBounds_toArray, List.set_cons_zero, List.set_cons_succ]
        refine C.tk_take (i := 15) (v := ?_) (by kernel_rfl) (by kernel_rfl) (by kernel_rfl) (fun oi hoi => ?_) rfl
        rotate_left
        simp only [List.getElem?_toArray, List.getElem?_cons_succ, List.getElem?_cons_zero] at hoi
        cases hoi
        refine ⟨fun _ _ _ h => h, Or.inl ⟨by rfl, ?_⟩, by assumption, ?_⟩
        · (intro w hSw; (try dsimp only at hSw); go_simp; all_goals with_reducible rfl)
        try simp only [Act.put, List.setIfInBounds_toArray, List.set_cons_zero, List.set_cons_succ]
        refine C.tk_take (i := 16) (v := ?_) (by kernel_rfl) (by kernel_rfl) (by kernel_rfl) (fun oi hoi => ?_) rfl
        rotate_left
        simp only [List.getElem?_toArray, List.getElem?_cons_succ, List.getElem?_cons_zero] at hoi
        cases hoi
        refine ⟨fun _ _ _ h => h, Or.inl ⟨by rfl, ?_⟩, by assumption, ?_⟩
        · (intro w hSw; (try dsimp only at hSw); go_simp; all_goals with_reducible rfl)
        try simp only [Act.put, List.setIfInBounds_toArray, List.set_cons_zero, List.set_cons_succ]
        refine wpAnyH_done (by kernel_rfl) ?_ _
        have HP6 := Aside0.mk (blk_below HX69.out HBP.out)
        have HP3 := Aside0.mk (blk_below HX39.out HBP.out)
        obtain ⟨g0, g1, g2⟩ := hSP
        have u0 : wP.cell? ⟨b6, 0, none⟩ = some _ := blk_cell HP6.out 0
        have u1 : wP.cell? ⟨b6, 1, none⟩ = some _ := blk_cell HP6.out 1
        have u2 : wP.cell? ⟨b6, 2, none⟩ = some _ := blk_cell HP6.out 2
        have s0 := blk_frozen HP6.out 0
        have s1 := blk_frozen HP6.out 1
        have s2 := blk_frozen HP6.out 2
        go_wp2
        go_roundg (100 - i)
        case measure => have h1 := HI.out; have h2 := HH.out; omega
        case rel => exact ⟨i + 1, D2, M2, L2, lv2, Ms2, AR, L2.length, cR, AQ, Ms2.length, cQ, col2, (by first | rfl | (simp; done)), ⟨by have h1 := HI.out; have h2 := HH.out; omega⟩, ⟨below_set (below_set (below_set (HB9.out.trans (HBP.out.mono HB9.out.size)) HG6w.out) HG6w.out) HG6w.out⟩, ⟨(HS9.out.below HBP.out).set3 (by simp) HC2.out.2 _ _ _⟩, ⟨sc_put3 HP6.out _ _ _⟩, ⟨sc_far3 HP3.out N36.out _ _ _⟩, HC2⟩
    · by_cases hi1 : i < l.length
      · have hi2 : i = 100 := by have := HI.out; omega
        have p1 : (i : Int) < (l.length : Int) := by omega
        have p2 : ¬ ((i : Int) < 100) := by omega
        have p3 : decide ((i : Int) < 100) = false := decide_eq_false p2
        clear hi hi1 hi2
        go_wp2
        refine wp_region_held_drew (S := fun w' => w'.cell? ⟨b6, 0, none⟩ = some (.slice AL nL cL) ∧ w'.cell? ⟨b6, 1, none⟩ = some (.int .i64 lv) ∧ w'.cell? ⟨b6, 2, none⟩ = some (.slice AM nM cM)) (by kernel_rfl) (show wr.drew.cell? ⟨b6, 0, none⟩ = some (.slice AL nL cL) ∧ wr.drew.cell? ⟨b6, 1, none⟩ = some (.int .i64 lv) ∧ wr.drew.cell? ⟨b6, 2, none⟩ = some (.slice AM nM cM) from ⟨blk_cell (blk_drew HX6r.out) 0, blk_cell (blk_drew HX6r.out) 1, blk_cell (blk_drew HX6r.out) 2⟩) (fun hHeld => ?_)
        refine C.tk_take (i := 0) (v := ?_) (by kernel_rfl) (by kernel_rfl) (by kernel_rfl) (fun oi hoi => ?_) rfl
        rotate_left
        simp only [List.getElem?_toArray, List.getElem?_cons_succ, List.getElem?_cons_zero] at hoi
        cases hoi
        refine ⟨fun _ _ _ h => h, Or.inl ⟨by rfl, ?_⟩, by assumption, ?_⟩
        · (intro w hSw; (try dsimp only at hSw); go_simp; all_goals with_reducible rfl)
        try simp only [Act.put, List.setIfInBounds_toArray, List.set_cons_zero, List.set_cons_succ]
        refine C.tk_take (i := 1) (v := ?_) (by kernel_rfl) (by kernel_rfl) (by kernel_rfl) (fun oi hoi => ?_) rfl
        rotate_left
        simp only [List.getElem?_toArray, List.getElem?_cons_succ, List.getElem?_cons_zero] at hoi
        cases hoi
        refine ⟨fun _ _ _ h => h, Or.inl ⟨by rfl, ?_⟩, by assumption, ?_⟩
        · (intro w hSw; (try dsimp only at hSw); go_simp; all_goals with_reducible rfl)
        try simp only [Act.put, List.setIfInBounds_toArray, List.set_cons_zero, List.set_cons_succ]
        refine C.tk_take (i := 2) (v := ?_) (by kernel_rfl) (by kernel_rfl) (by kernel_rfl) (fun oi hoi => ?_) rfl
        rotate_left
        simp only [List.getElem?_toArray, List.getElem?_cons_succ, List.getElem?_cons_zero] at hoi
        cases hoi
        refine ⟨fun _ _ _ h => h, Or.inl ⟨by rfl, ?_⟩, by assumption, ?_⟩
        · (intro w hSw; (try dsimp only at hSw); go_simp; all_goals with_reducible rfl)
        try simp only [Act.put, List.setIfInBounds_toArray, List.set_cons_zero, List.set_cons_succ]
        have v0 : wr.drew.cell? ⟨b3, 0, none⟩ = some _ := blk_cell (blk_drew HX3r.out) 0
        have v1 : wr.drew.cell? ⟨b3, 1, none⟩ = some _ := blk_cell (blk_drew HX3r.out) 1
        have v2 : wr.drew.cell? ⟨b3, 2, none⟩ = some _ := blk_cell (blk_drew HX3r.out) 2
        have t0 := blk_frozen (blk_drew HX3r.out) 0
        have t1 := blk_frozen (blk_drew HX3r.out) 1
        have t2 := blk_frozen (blk_drew HX3r.out) 2
        generalize hW0 : wr.drew = W0 at *
        have HB0w := Aside0.mk (show Below w.heap.size w W0 by rw [← hW0]; exact below_drew HB.out)
        have HS0w := Aside0.mk (show St [b3, b6] i w3.heap.size W0 g col D M L lv Ms (.slice AL nL cL) (.slice AM nM cM) by rw [← hW0]; exact HSt.out.below (below_drew (Below.refl _ _)))
        have HX0w := Aside0.mk (show W0.heap[b3]? = some (.cells #[.slice none 0 0, .int .i64 0, .slice none 0 0] 31 (0, 0)) by rw [← hW0]; exact blk_drew HX3r.out)
        have N63 : b6 ≠ b3 := Ne.symm N36.out
        refine wpAnyH_ready (rs := [3]) (by kernel_rfl) (by simp) ?_
        refine AllReadyH.cons rfl (fun K hK => ?_) AllReadyH.nil
        rw [if_pos (by rfl)]
        go_simp
        refine hK.out _ _ ⟨pl_cell (hHeld.1) N63 _ _ _, pl_cell (hHeld.2.1) N63 _ _ _, pl_cell (hHeld.2.2) N63 _ _ _⟩ (fun hHeld => ?_)
        clear hK
        try simp only [Act.put, List.setIfInBounds_toArray, List.set_cons_zero, List.set_cons_succ]
        refine C.tk_take (i := 4) (v := ?_) (by kernel_rfl) (by kernel_rfl) (by kernel_rfl) (fun oi hoi => ?_) rfl
        rotate_left
        simp only [List.getElem?_toArray, List.getElem?_cons_succ, List.getElem?_cons_zero] at hoi
        cases hoi
        refine ⟨fun _ _ _ h => h, Or.inl ⟨by rfl, ?_⟩, by assumption, ?_⟩
        · (intro w hSw; (try dsimp only at hSw); go_simp; all_goals with_reducible rfl)
        try simp only [Act.put, List.setIfInBounds_toArray, List.set_cons_zero, List.set_cons_succ]
        refine wpAnyH_done (by kernel_rfl) ?_ _
        go_wp2
        refine bodyPost_ret (results_list (rs := [.tmp 2, .cell 3 31, .tmp 4]) rfl (by simp) (.tmp (.cell b3 31 #[.slice AL nL cL, .int .i64 lv, .slice AM nM cM] (0, 0) _ rfl (sc_put3 HX0w.out _ _ _) Try.underlying31 rfl (by kernel_rfl) (.tmp .nil)))) rfl ?_
        have hs := HS0w.out.set3 (by simp) HCB.out.1 (.slice AL nL cL) (.int .i64 lv) (.slice AM nM cM)
        have hs2 := hs.less (bx' := []) (by simp)
        exact ⟨w3.heap.size, g, col, D, M, L, lv, Ms, AL, nL, cL, AM, nM, cM, HW3.out, rfl, ⟨hs2.is, hs2.vl, hs2.vm, hs2.sim, Nat.le_trans hs2.len (by have := HI.out; omega), hs2.par, hs2.bxs⟩, sc_put3b HB0w.out HG3.out _ _ _⟩
      · have p1 : decide (i < l.length) = false := decide_eq_false hi1
        clear hi hi1
        go_wp2
        refine wp_region_held_drew (S := fun w' => w'.cell? ⟨b6, 0, none⟩ = some (.slice AL nL cL) ∧ w'.cell? ⟨b6, 1, none⟩ = some (.int .i64 lv) ∧ w'.cell? ⟨b6, 2, none⟩ = some (.slice AM nM cM)) (by kernel_rfl) (show wr.drew.cell? ⟨b6, 0, none⟩ = some (.slice AL nL cL) ∧ wr.drew.cell? ⟨b6, 1, none⟩ = some (.int .i64 lv) ∧ wr.drew.cell? ⟨b6, 2, none⟩ = some (.slice AM nM cM) from ⟨blk_cell (blk_drew HX6r.out) 0, blk_cell (blk_drew HX6r.out) 1, blk_cell (blk_drew HX6r.out) 2⟩) (fun hHeld => ?_)
        refine C.tk_take (i := 0) (v := ?_) (by kernel_rfl) (by kernel_rfl) (by kernel_rfl) (fun oi hoi => ?_) rfl
        rotate_left
        simp only [List.getElem?_toArray, List.getElem?_cons_succ, List.getElem?_cons_zero] at hoi
        cases hoi
        refine ⟨fun _ _ _ h => h, Or.inl ⟨by rfl, ?_⟩, by assumption, ?_⟩
        · (intro w hSw; (try dsimp only at hSw); go_simp; all_goals with_reducible rfl)
        try simp only [Act.put, List.setIfInBounds_toArray, List.set_cons_zero, List.set_cons_succ]
        refine C.tk_take (i := 1) (v := ?_) (by kernel_rfl) (by kernel_rfl) (by kernel_rfl) (fun oi hoi => ?_) rfl
        rotate_left
        simp only [List.getElem?_toArray, List.getElem?_cons_succ, List.getElem?_cons_zero] at hoi
        cases hoi
        refine ⟨fun _ _ _ h => h, Or.inl ⟨by rfl, ?_⟩, by assumption, ?_⟩
        · (intro w hSw; (try dsimp only at hSw); go_simp; all_goals with_reducible rfl)
        try simp only [Act.put, List.setIfInBounds_toArray, List.set_cons_zero, List.set_cons_succ]
        refine C.tk_take (i := 2) (v := ?_) (by kernel_rfl) (by kernel_rfl) (by kernel_rfl) (fun oi hoi => ?_) rfl
        rotate_left
        simp only [List.getElem?_toArray, List.getElem?_cons_succ, List.getElem?_cons_zero] at hoi
        cases hoi
        refine ⟨fun _ _ _ h => h, Or.inl ⟨by rfl, ?_⟩, by assumption, ?_⟩
        · (intro w hSw; (try dsimp only at hSw); go_simp; all_goals with_reducible rfl)
        try simp only [Act.put, List.setIfInBounds_toArray, List.set_cons_zero, List.set_cons_succ]
        have v0 : wr.drew.cell? ⟨b3, 0, none⟩ = some _ := blk_cell (blk_drew HX3r.out) 0
        have v1 : wr.drew.cell? ⟨b3, 1, none⟩ = some _ := blk_cell (blk_drew HX3r.out) 1
        have v2 : wr.drew.cell? ⟨b3, 2, none⟩ = some _ := blk_cell (blk_drew HX3r.out) 2
        have t0 := blk_frozen (blk_drew HX3r.out) 0
        have t1 := blk_frozen (blk_drew HX3r.out) 1
        have t2 := blk_frozen (blk_drew HX3r.out) 2
        generalize hW0 : wr.drew = W0 at *
        have HB0w := Aside0.mk (show Below w.heap.size w W0 by rw [← hW0]; exact below_drew HB.out)
        have HS0w := Aside0.mk (show St [b3, b6] i w3.heap.size W0 g col D M L lv Ms (.slice AL nL cL) (.slice AM nM cM) by rw [← hW0]; exact HSt.out.below (below_drew (Below.refl _ _)))
        have HX0w := Aside0.mk (show W0.heap[b3]? = some (.cells #[.slice none 0 0, .int .i64 0, .slice none 0 0] 31 (0, 0)) by rw [← hW0]; exact blk_drew HX3r.out)
        have N63 : b6 ≠ b3 := Ne.symm N36.out
        refine wpAnyH_ready (rs := [3]) (by kernel_rfl) (by simp) ?_
        refine AllReadyH.cons rfl (fun K hK => ?_) AllReadyH.nil
        rw [if_pos (by rfl)]
        go_simp
        refine hK.out _ _ ⟨pl_cell (hHeld.1) N63 _ _ _, pl_cell (hHeld.2.1) N63 _ _ _, pl_cell (hHeld.2.2) N63 _ _ _⟩ (fun hHeld => ?_)
        clear hK
        try simp only [Act.put, List.setIfInBounds_toArray, List.set_cons_zero, List.set_cons_succ]
        refine C.tk_take (i := 4) (v := ?_) (by kernel_rfl) (by kernel_rfl) (by kernel_rfl) (fun oi hoi => ?_) rfl
        rotate_left
        simp only [List.getElem?_toArray, List.getElem?_cons_succ, List.getElem?_cons_zero] at hoi
        cases hoi
        refine ⟨fun _ _ _ h => h, Or.inl ⟨by rfl, ?_⟩, by assumption, ?_⟩
        · (intro w hSw; (try dsimp only at hSw); go_simp; all_goals with_reducible rfl)
        try simp only [Act.put, List.setIfInBounds_toArray, List.set_cons_zero, List.set_cons_succ]
        refine wpAnyH_done (by kernel_rfl) ?_ _
        go_wp2
        refine bodyPost_ret (results_list (rs := [.tmp 2, .cell 3 31, .tmp 4]) rfl (by simp) (.tmp (.cell b3 31 #[.slice AL nL cL, .int .i64 lv, .slice AM nM cM] (0, 0) _ rfl (sc_put3 HX0w.out _ _ _) Try.underlying31 rfl (by kernel_rfl) (.tmp .nil)))) rfl ?_
        have hs := HS0w.out.set3 (by simp) HCB.out.1 (.slice AL nL cL) (.int .i64 lv) (.slice AM nM cM)
        have hs2 := hs.less (bx' := []) (by simp)
        exact ⟨w3.heap.size, g, col, D, M, L, lv, Ms, AL, nL, cL, AM, nM, cM, HW3.out, rfl, ⟨hs2.is, hs2.vl, hs2.vm, hs2.sim, Nat.le_trans hs2.len (by have := HI.out; omega), hs2.par, hs2.bxs⟩, sc_put3b HB0w.out HG3.out _ _ _⟩

end Go.Proofs.Ytkgjpelddncfdaa.P

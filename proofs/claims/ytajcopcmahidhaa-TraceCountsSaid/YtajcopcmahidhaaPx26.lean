-- Written by a program of this session (wip/tools/hp.py) out of the translation.
import Derived.Test.YtajcopcmahidhaaPx0
import Derived.Test.YtajcopcmahidhaaPx2
import Derived.Test.YtajcopcmahidhaaPx3
import Derived.Test.YtajcopcmahidhaaPx4
import Derived.Test.YtajcopcmahidhaaPx5
import Derived.Test.YtajcopcmahidhaaPx18
import Derived.Test.YtajcopcmahidhaaPx19
import Derived.Test.YtajcopcmahidhaaPx20
import Derived.Test.YtajcopcmahidhaaPx21
import Derived.Test.YtajcopcmahidhaaPx22
import Derived.Test.YtajcopcmahidhaaPx23
import Derived.Test.YtajcopcmahidhaaPx24
import Derived.Test.YtajcopcmahidhaaPx25
namespace Go.Proofs.Ytajcopcmahidhaa.P
open Go.RowKit Go.Proofs.YtajcopcmahidhaaW.PrintWords Go.Proofs.YtajcopcmahidhaaW.PrintLast Go.Proofs.YtajcopcmahidhaaW.PrintMore
attribute [local go_sem] max2_int min2_int max_two min_two max_three min_three max_four min_four   -- for this text's walks alone
set_option linter.unusedVariables false
set_option linter.unusedSimpArgs false

/-! ### pascalinelaw29_TraceTexts: function 4 -/
def tw_tx (v : Int) : ByteArray := (word_Text.f v).getD ⟨#[]⟩
/-- What the law leans on, of all events and of the port. -/
structure tt_ok (k : Nat) (l : List S27) (p : Int) : Prop where
  lined : tr_lined k l = true
  lines : ∀ x ∈ l, pascalineref29_Line.f x.f0 x.f1 = some (tr_line k x)
  nums : ∀ x ∈ l, (-2147483648 ≤ x.f1 ∧ x.f1 ≤ 2147483647) ∧ word_Text.f x.f1 = some (tw_tx x.f1) ∧ (tw_tx x.f1).size ≤ 1000
  text : pascalineref29_Text.f k l = some ⟨(tx_lines (tr_line k) l).toArray⟩
  written : pascalineref29_Written.f k l = some ⟨(tw_all tw_tx l).toArray⟩
  name : ∃ n, trace_Name.f k p = some n ∧ pascalineref29_Name.f p = some n
def tt_all (k : Nat) (l : List S27) (p : Int) : Bool :=
  (tr_lined k l && l.all (fun x => decide (pascalineref29_Line.f x.f0 x.f1 = some (tr_line k x)))) && l.all (fun x => decide ((-2147483648 ≤ x.f1 ∧ x.f1 ≤ 2147483647) ∧ word_Text.f x.f1 = some (tw_tx x.f1) ∧ (tw_tx x.f1).size ≤ 1000)) && decide (pascalineref29_Text.f k l = some ⟨(tx_lines (tr_line k) l).toArray⟩) && decide (pascalineref29_Written.f k l = some ⟨(tw_all tw_tx l).toArray⟩) && decide (pascalineref29_Name.f p = trace_Name.f k p) && (trace_Name.f k p).isSome
theorem tt_all_iff (k : Nat) (l : List S27) (p : Int) : tt_all k l p = true ↔ tt_ok k l p := by
  unfold tt_all
  simp only [Bool.and_eq_true, decide_eq_true_eq, List.all_eq_true]
  constructor
  · rintro ⟨⟨⟨⟨⟨⟨h1, h2⟩, h3⟩, h4⟩, h5⟩, h6⟩, h7⟩
    obtain ⟨n, hn⟩ := Option.isSome_iff_exists.mp h7
    exact ⟨h1, h2, h3, h4, h5, n, hn, h6.trans hn⟩
  · intro h
    obtain ⟨n, h1, h2⟩ := h.name
    exact ⟨⟨⟨⟨⟨⟨h.lined, h.lines⟩, h.nums⟩, h.text⟩, h.written⟩, h2.trans h1.symm⟩, by rw [h1]; rfl⟩
def pascalinelaw29_TraceTexts.f (k : Nat) (l0 : List S27) (a1 : Int) : Option Bool := if l0.length > 200 then some true else if tt_all k l0 a1 = true then some true else none
set_option maxHeartbeats 8000000 in
set_option maxRecDepth 100000 in
theorem pascalinelaw29_TraceTexts.calls (k : Nat) (A0 : Option Addr) (c0 : Nat) (l0 : List S27) (a1 : Int) (r : Bool) (w : World) (hr0 : Kd.C k27 w A0 l0.length l0) (hc0 : l0.length ≤ c0) (h : pascalinelaw29_TraceTexts.f k l0 a1 = some r) :
    Calls Try.prog 4 #[.slice A0 l0.length c0, .int .i64 a1] w fun e w' => e = .returned (.bool r) ∧ Below w.heap.size w w' := by
  unfold pascalinelaw29_TraceTexts.f at h
  by_cases hl : l0.length > 200
  · rw [if_pos hl] at h
    obtain rfl : r = true := by injection h with h; exact h.symm
    have g0 : (200 : Int) < (l0.length : Int) := by omega
    clear hr0 hc0 h hl
    generalize l0.length = n0 at *
    go_enter Try.func4, Try.ntmps4
    go_wp2_with (go_at_call 7; ((with_reducible refine (pascalinelaw29_awake.calls 20 true _ tr_awake).mono ?_)); rintro e w1 ⟨rfl, hb⟩; have HB1 := Aside0.mk hb; clear hb)
    go_ret
    exact ⟨rfl, HB1.out⟩
  rw [if_neg hl] at h
  by_cases hk : tt_all k l0 a1 = true
  · rw [if_pos hk] at h
    obtain rfl : r = true := by injection h with h; exact h.symm
    have hok := (tt_all_iff k l0 a1).mp hk
    obtain ⟨nm, hn1, hn2⟩ := hok.name
    have g0b : decide ((200 : Int) < (l0.length : Int)) = false := decide_eq_false (by omega)
    have hll : l0.length ≤ 200 := by omega
    have H0 := Aside0.mk (And.intro hr0 hc0)
    have HOK := Aside0.mk hok
    have HN := Aside0.mk (And.intro hn1 hn2)
    have HLL := Aside0.mk hll
    have HT := Aside0.mk (show ∀ W, Below w.heap.size w W → Calls Try.prog 15 #[.slice A0 l0.length c0] W fun e w' => e = .returned (.string ⟨(tx_lines (tr_line k) l0).toArray⟩) ∧ Below W.heap.size W w' from fun W hW => trace_Text.calls k (tr_line k) A0 c0 l0 W (by omega) (fun x hx => tr_lined_at HOK.out.lined x hx) (Kd.C_below H0.out.1 hW))
    have HW := Aside0.mk (show ∀ W, Below w.heap.size w W → Calls Try.prog 17 #[.slice A0 l0.length c0] W fun e w' => e = .returned (.string ⟨(tw_all tw_tx l0).toArray⟩) ∧ Below W.heap.size W w' from fun W hW => trace_Written.calls tw_tx A0 c0 l0 W (by omega) HOK.out.nums (Kd.C_below H0.out.1 hW))
    have HRT := Aside0.mk (show ∀ W, Below w.heap.size w W → Calls Try.prog 16 #[.slice A0 l0.length c0] W fun e w' => e = .returned (.string ⟨(tx_lines (tr_line k) l0).toArray⟩) ∧ Below W.heap.size W w' from fun W hW => pascalineref29_Text.calls k A0 c0 l0 _ W (Kd.C_below H0.out.1 hW) H0.out.2 HOK.out.text)
    have HRW := Aside0.mk (show ∀ W, Below w.heap.size w W → Calls Try.prog 18 #[.slice A0 l0.length c0] W fun e w' => e = .returned (.string ⟨(tw_all tw_tx l0).toArray⟩) ∧ Below W.heap.size W w' from fun W hW => pascalineref29_Written.calls k A0 c0 l0 _ W (Kd.C_below H0.out.1 hW) H0.out.2 HOK.out.written)
    generalize (⟨(tx_lines (tr_line k) l0).toArray⟩ : ByteArray) = t1 at HT HRT
    generalize (⟨(tw_all tw_tx l0).toArray⟩ : ByteArray) = t2 at HW HRW
    clear hr0 hc0 h hk hok hn1 hn2 hl hll
    go_enter Try.func4, Try.ntmps4
    go_wp2_with (go_at_call 7; ((with_reducible refine (pascalinelaw29_awake.calls 20 true _ tr_awake).mono ?_)); rintro e w1 ⟨rfl, hb⟩; have HB1 := Aside0.mk hb; clear hb)
    go_loopg [5] (l0.length + 1) (fun kx v5 wr => ∃ i : Nat, v5 = .int .i64 i ∧ Aside0 (i + kx = l0.length + 1 ∧ i ≤ l0.length) ∧ Aside0 (Below w.heap.size w wr))
    case atStart => exact ⟨0, rfl, ⟨⟨by omega, by omega⟩⟩, HB1⟩
    case round =>
      clear HB1
      obtain ⟨i, rfl, I, HB⟩ := hrel
      by_cases hi : i < l0.length
      · obtain ⟨ad, e, hx0, hx1⟩ := at_T27 H0.out.1 (i : Int) (by omega) (by omega)
        cases e
        rw [Int.toNat_natCast] at hx0 hx1
        have er : rd_T27 l0 (i : Int) = l0[i] := by unfold rd_T27; rw [Int.toNat_natCast]; simp [List.getD_eq_getElem?_getD, hi]
        have hmem : rd_T27 l0 (i : Int) ∈ l0 := by rw [er]; exact List.getElem_mem _
        have hq1 := (tr_lined_at HOK.out.lined _ hmem).1
        have hq2 := HOK.out.lines _ hmem
        generalize rd_T27 l0 (i : Int) = z at hx0 hx1 hq1 hq2
        obtain ⟨x, y⟩ := z
        have HQ := Aside0.mk (And.intro hq1 hq2)
        dsimp only at hx0 hx1
        have HX := Aside0.mk (And.intro hx0 hx1)
        clear er hmem hq1 hq2
        replace hx0 := (HB.out.cell (World.block_lt_of_cell? w _ HX.out.1)).trans HX.out.1
        replace hx1 := (HB.out.cell (World.block_lt_of_cell? w _ HX.out.2)).trans HX.out.2
        have hi1 : (i : Int) < (l0.length : Int) := by omega
        have hi0 : (0 : Int) ≤ (i : Int) := by omega
        have hi2 : (i : Int) ≤ 200 := by have := HLL.out; omega
        go_wp2
        go_region_held3 (fun w' => w'.cell? (ad.add (i * 2)) = some (.int .i64 x) ∧ w'.cell? ⟨(ad.add (i * 2)).block, (ad.add (i * 2)).off + 1, none⟩ = some (.int .i32 y)) (first | exact ⟨hx0, hx1⟩)
          (first
            | (go_at_call 11; ((with_reducible refine (trace_Line.calls k x y _ _ HQ.out.1).mono ?_)); rintro e we ⟨rfl, hb⟩; have HB2 := Aside0.mk (show Below w.heap.size w we from by first | exact below_step HB.out hb | exact below_step (below_drew1 HB.out) hb); clear HB hx0 hx1; have HB := HB2; have hx0 := (HB.out.cell (World.block_lt_of_cell? w _ HX.out.1)).trans HX.out.1; have hx1 := (HB.out.cell (World.block_lt_of_cell? w _ HX.out.2)).trans HX.out.2; clear HB2 hb)
            | (go_at_call 12; ((with_reducible refine (pascalineref29_Line.calls x y _ _ HQ.out.2).mono ?_)); rintro e we ⟨rfl, hb⟩; have HB2 := Aside0.mk (show Below w.heap.size w we from by first | exact below_step HB.out hb | exact below_step (below_drew1 HB.out) hb); clear HB hx0 hx1; have HB := HB2; have hx0 := (HB.out.cell (World.block_lt_of_cell? w _ HX.out.1)).trans HX.out.1; have hx1 := (HB.out.cell (World.block_lt_of_cell? w _ HX.out.2)).trans HX.out.2; clear HB2 hb))
        all_goals
          go_wp2
          go_roundg (l0.length - i)
          case measure => have := I.out; omega
          case rel => exact ⟨i + 1, by first | rfl | (simp; done), ⟨by have := I.out; omega⟩, HB⟩
      · have hi1 : decide ((i : Int) < (l0.length : Int)) = false := decide_eq_false (by omega)
        go_wp2_with (first
          | (go_at_call 13; ((with_reducible refine (trace_Name.calls k a1 nm _ HN.out.1).mono ?_)); rintro e w2 ⟨rfl, hb⟩; have HB2 := Aside0.mk (below_step HB.out hb); clear hb)
          | (go_at_call 14; ((with_reducible refine (pascalineref29_Name.calls a1 nm _ HN.out.2).mono ?_)); rintro e w3 ⟨rfl, hb⟩; have HB3 := Aside0.mk (below_step HB2.out hb); clear hb)
          | (go_at_call 15; ((with_reducible refine (HT.out _ HB3.out).mono ?_)); rintro e w4 ⟨rfl, hb⟩; have HB4 := Aside0.mk (below_step HB3.out hb); clear hb)
          | (go_at_call 16; ((with_reducible refine (HRT.out _ HB4.out).mono ?_)); rintro e w5 ⟨rfl, hb⟩; have HB5 := Aside0.mk (below_step HB4.out hb); clear hb)
          | (go_at_call 17; ((with_reducible refine (HW.out _ HB5.out).mono ?_)); rintro e w6 ⟨rfl, hb⟩; have HB6 := Aside0.mk (below_step HB5.out hb); clear hb)
          | (go_at_call 18; ((with_reducible refine (HRW.out _ HB6.out).mono ?_)); rintro e w7 ⟨rfl, hb⟩; have HB7 := Aside0.mk (below_step HB6.out hb); clear hb))
        go_ret
        exact ⟨rfl, HB7.out⟩
  · rw [if_neg hk] at h; exact absurd h (by simp)

end Go.Proofs.Ytajcopcmahidhaa.P

-- Written by a program of this session (wip/tools/hp.py) out of the translation.
import Derived.Test.YtnfgncapmkpcjaaPx0
import Derived.Test.YtnfgncapmkpcjaaPx4
import Derived.Test.YtnfgncapmkpcjaaPx5
import Derived.Test.YtnfgncapmkpcjaaPx6
import Derived.Test.YtnfgncapmkpcjaaPx12
namespace Go.Proofs.Ytnfgncapmkpcjaa.P
open Go.RowKit Go.Proofs.YtnfgncapmkpcjaaW.PrintWords Go.Proofs.YtnfgncapmkpcjaaW.PrintLast Go.Proofs.YtnfgncapmkpcjaaW.PrintMore
attribute [local go_sem] max2_int min2_int max_two min_two max_three min_three max_four min_four   -- for this text's walks alone
set_option linter.unusedVariables false
set_option linter.unusedSimpArgs false

/-! ### pascalinelaw25_OrderStays: function 5 -/
def oy_new : ByteArray := ⟨#[78, 101, 119, 32, 111, 110, 101]⟩
def oy_is (u : ByteArray) : Bool := u.toList == ([78, 101, 119, 32, 111, 110, 101] : List UInt8)
def oy_one (x : S41) : Bool := oy_is x.f0 || x.f1.any oy_is
def oy_end (o : List Int) (n : Int) : List Int := o ++ [n]
/-- What is asked, when both orders are there. -/
def oy_told (k : Nat) (l : List S41) (bt bt2 : List Int × Int × Int) : Option Bool :=
  if bt.2.2 = 0 then (if bt2.2.2 = 0 then pascalinelaw25_same.f k bt2.1 (oy_end bt.1 (l.length : Int)) else some false) else some (bt2.2.2 == bt.2.2)
def oy_more (l : List S41) : List S41 := l ++ [⟨oy_new, []⟩]
def pascalinelaw25_OrderStays.f (k : Nat) (l0 : List S41) : Option Bool :=
  (pascalinelaw25_awake.f k).bind fun t => if t = true then ((pascalinelaw25_few.f k l0).bind fun t2 => if t2 = true then (if l0.length < 64 then ((order_Sort.f k l0).bind fun bt => if bt.1.length ≤ 1000 then (if l0.any oy_one = true then some true else ((order_Sort.f k (oy_more l0)).bind fun bt2 => oy_told k l0 bt bt2)) else none) else some true) else some true) else some false
theorem pascalinelaw25_OrderStays.mono : ∀ a0 k, LeO (pascalinelaw25_OrderStays.f k a0) (pascalinelaw25_OrderStays.f (k + 1) a0) := by
  intro a0 k
  unfold pascalinelaw25_OrderStays.f oy_told
  exact LeO.bind (pascalinelaw25_awake.mono k) (fun _ => LeO.ite (LeO.bind (pascalinelaw25_few.mono _ k) (fun _ => LeO.ite (LeO.ite (LeO.bind (order_Sort.mono _ k) (fun _ => LeO.ite (LeO.ite (LeO.refl _) (LeO.bind (order_Sort.mono _ k) (fun _ => LeO.ite (LeO.ite (pascalinelaw25_same.mono _ _ k) (LeO.refl _)) (LeO.refl _)))) (LeO.refl _))) (LeO.refl _)) (LeO.refl _))) (LeO.refl _))
set_option maxHeartbeats 4000000 in
set_option maxRecDepth 100000 in
theorem pascalinelaw25_OrderStays.calls (k : Nat) (A0 : Option Addr) (c0 : Nat) (l0 : List S41) (r : Bool) (w : World) (hr0 : Kd.C k41 w A0 l0.length l0) (hc0 : l0.length ≤ c0) (h : pascalinelaw25_OrderStays.f k l0 = some r) :
    Calls Try.prog 5 #[.slice A0 l0.length c0] w fun e w' => e = .returned (.bool r) ∧ Below w.heap.size w w' := by
  have HR0 := Aside0.mk hr0
  have HC0 := Aside0.mk hc0
  clear hr0 hc0
  unfold pascalinelaw25_OrderStays.f at h
  obtain ⟨t, ha, h⟩ := Option.bind_eq_some_iff.mp h
  have HAW := Aside0.mk ha
  clear ha
  cases t with
  | false =>
    rw [if_neg (by simp)] at h
    injection h with h
    subst h
    go_enter Try.func5, Try.ntmps5
    go_wp2_with (first
      | (go_at_call 7; ((with_reducible refine (pascalinelaw25_awake.calls k false _ HAW.out).mono ?_)); rintro e w1 ⟨rfl, hb⟩; have HB1 := Aside0.mk hb; clear hb))
    go_ret
    exact ⟨rfl, HB1.out⟩
  | true =>
    rw [if_pos rfl] at h
    obtain ⟨t2, hf, h⟩ := Option.bind_eq_some_iff.mp h
    have HFW := Aside0.mk hf
    clear hf
    cases t2 with
    | false =>
      rw [if_neg (by simp)] at h
      injection h with h
      subst h
      go_enter Try.func5, Try.ntmps5
      go_wp2_with (first
        | (go_at_call 7; ((with_reducible refine (pascalinelaw25_awake.calls k true _ HAW.out).mono ?_)); rintro e w1 ⟨rfl, hb⟩; have HB1 := Aside0.mk hb; clear hb)
        | (go_at_call 8; ((with_reducible refine (pascalinelaw25_few.calls k A0 c0 l0 false _ (Kd.C_below HR0.out HB1.out) HC0.out HFW.out).mono ?_)); rintro e w2 ⟨rfl, hb⟩; have HB2 := Aside0.mk (below_step HB1.out hb.below); clear hb))
      go_ret
      exact ⟨rfl, HB2.out⟩
    | true =>
      rw [if_pos rfl] at h
      by_cases h64 : l0.length < 64
      · rw [if_pos h64] at h
        obtain ⟨bt, hs, h⟩ := Option.bind_eq_some_iff.mp h
        obtain ⟨o1, n1, e1⟩ := bt
        by_cases ho1 : o1.length ≤ 1000
        · rw [if_pos ho1] at h
          have HS := Aside0.mk hs
          have HO1 := Aside0.mk ho1
          have hge : decide ((l0.length : Int) ≥ 64) = false := decide_eq_false (by omega)
          have hge2 : decide (64 ≤ (l0.length : Int)) = false := decide_eq_false (by omega)
          have H64 := Aside0.mk h64
          obtain ⟨b, hb⟩ : ∃ b, b = l0.any oy_one := ⟨_, rfl⟩
          rw [← hb] at h
          have HBB := Aside0.mk hb
          have H := Aside0.mk h
          clear h hs h64 hb ho1
          go_enter Try.func5, Try.ntmps5
          go_wp2_with (first
            | (go_at_call 7; ((with_reducible refine (pascalinelaw25_awake.calls k true _ HAW.out).mono ?_)); rintro e w1 ⟨rfl, hb⟩; have HB1 := Aside0.mk hb; clear hb)
            | (go_at_call 8; ((with_reducible refine (pascalinelaw25_few.calls k A0 c0 l0 true _ (Kd.C_below HR0.out HB1.out) HC0.out HFW.out).mono ?_)); rintro e w2 ⟨rfl, hb⟩; have HB2 := Aside0.mk (below_step HB1.out hb.below); clear hb)
            | (go_at_call 12; ((with_reducible refine (order_Sort.calls k A0 c0 l0 o1 n1 e1 _ (Kd.C_below HR0.out HB2.out) HC0.out HS.out).mono ?_)); rintro e w3 ⟨v3, rfl, ho, hb⟩; have HB3 := Aside0.mk (below_step HB2.out hb); have HO3 := Aside0.mk (Kd.R_lower ho HB2.out.size); clear ho hb))
          have HI := Aside0.mk (show (l0.drop 0).any oy_one = b by rw [List.drop_zero]; exact HBB.out.symm)
          go_loopg [6] (l0.length + 1) (fun kx v6 wr => ∃ i : Nat, v6 = .int .i64 i ∧ wr = w3 ∧ Aside0 (i + kx = l0.length + 1 ∧ i ≤ l0.length) ∧ Aside0 ((l0.drop i).any oy_one = b))
          case atStart => exact ⟨0, rfl, rfl, ⟨⟨by omega, by omega⟩⟩, HI⟩
          case round =>
            clear HI
            obtain ⟨i, rfl, rfl, I, HX⟩ := hrel
            by_cases hi : i < l0.length
            · obtain ⟨ad, A1, c1, e, hx0, hx1, hle, hC1⟩ := at_T41 HR0.out (i : Int) (by omega) (by omega)
              cases e
              rw [Int.toNat_natCast] at hx0 hx1
              have er : rd_T41 l0 (i : Int) = l0[i] := by unfold rd_T41; rw [Int.toNat_natCast]; simp [List.getD_eq_getElem?_getD, hi]
              have hX := HX.out
              rw [List.drop_eq_getElem_cons hi, ← er, List.any_cons] at hX
              unfold oy_one at hX
              replace hx0 := pw_cell_below HB3.out hx0
              replace hx1 := pw_cell_below HB3.out hx1
              replace hC1 := Kd.C_below hC1 HB3.out
              generalize rd_T41 l0 (i : Int) = z at hx0 hx1 hle hC1 hX
              obtain ⟨nm, us⟩ := z
              dsimp only at hx0 hx1 hle hC1 hX
              clear er
              have hi1 : (i : Int) < (l0.length : Int) := by omega
              have hi0 : (0 : Int) ≤ (i : Int) := by omega
              have hi2 : (i : Int) ≤ 100000 := by have := H64.out; omega
              have hin : decide (i < l0.length) = true := decide_eq_true hi
              have HCU := Aside0.mk hC1
              have HLE := Aside0.mk hle
              clear hC1 hle
              cases hnm : oy_is nm
              · rw [hnm, Bool.false_or] at hX
                have HX2 := Aside0.mk hX
                have hnm2 : (nm.toList == [78, 101, 119, 32, 111, 110, 101]) = false := hnm
                clear hX hnm
                go_wp2
                go_loopg [7] (us.length + 1) (fun ky v7 wr2 => ∃ j : Nat, v7 = .int .i64 j ∧ wr2 = wr ∧ Aside0 (j + ky = us.length + 1 ∧ j ≤ us.length) ∧ Aside0 (((us.drop j).any oy_is || (l0.drop (i + 1)).any oy_one) = b))
                case atStart => exact ⟨0, rfl, rfl, ⟨⟨by omega, by omega⟩⟩, ⟨by rw [List.drop_zero]; exact HX2.out⟩⟩
                case round =>
                  obtain ⟨j, rfl, rfl, J, HY⟩ := hrel
                  by_cases hj : j < us.length
                  · obtain ⟨ad2, e2, hy0⟩ := Kd.at_string HCU.out (j : Int) (by omega) (by omega)
                    cases e2
                    rw [Int.toNat_natCast] at hy0
                    have er2 : rdOf ByteArray.empty us (j : Int) = us[j] := by unfold rdOf; rw [Int.toNat_natCast]; simp [List.getD_eq_getElem?_getD, hj]
                    have hY := HY.out
                    rw [List.drop_eq_getElem_cons hj, ← er2, List.any_cons] at hY
                    generalize rdOf ByteArray.empty us (j : Int) = u at hy0 hY
                    clear er2
                    have hj1 : (j : Int) < (us.length : Int) := by omega
                    have hj0 : (0 : Int) ≤ (j : Int) := by omega
                    have hjn : decide (j < us.length) = true := decide_eq_true hj
                    have hj2 : (j : Int) ≤ 9223372036854775806 := by have := HCU.out.2.1; omega
                    cases hou : oy_is u
                    · have hou2 : (u.toList == [78, 101, 119, 32, 111, 110, 101]) = false := hou
                      rw [hou, Bool.false_or] at hY
                      have HY2 := Aside0.mk hY
                      clear hY hou
                      go_wp2
                      go_roundg (us.length - j)
                      case measure => have := J.out; omega
                      case rel => exact ⟨j + 1, by first | rfl | (simp; done), rfl, ⟨by have := J.out; omega⟩, HY2⟩
                    · have hou2 : (u.toList == [78, 101, 119, 32, 111, 110, 101]) = true := hou
                      rw [hou, Bool.true_or, Bool.true_or] at hY
                      have HE := Aside0.mk (show r = true by have hh := H.out; rw [← hY, if_pos rfl] at hh; injection hh with hh; exact hh.symm)
                      clear hY hou
                      go_wp2
                      go_ret
                      exact ⟨by rw [HE.out]; rfl, HB3.out⟩
                  · have hY := HY.out
                    rw [List.drop_eq_nil_of_le (by omega), List.any_nil, Bool.false_or] at hY
                    have HY2 := Aside0.mk hY
                    have hjn : decide (j < us.length) = false := decide_eq_false hj
                    have hjm : decide ((j : Int) < (us.length : Int)) = false := decide_eq_false (by omega)
                    clear hY
                    go_wp2
                    go_roundg (l0.length - i)
                    case measure => have := I.out; omega
                    case rel => exact ⟨i + 1, by first | rfl | (simp; done), rfl, ⟨by have := I.out; omega⟩, HY2⟩
              · have hnm2 : (nm.toList == [78, 101, 119, 32, 111, 110, 101]) = true := hnm
                rw [hnm, Bool.true_or, Bool.true_or] at hX
                have HE := Aside0.mk (show r = true by have hh := H.out; rw [← hX, if_pos rfl] at hh; injection hh with hh; exact hh.symm)
                clear hX hnm
                go_wp2
                go_ret
                exact ⟨by rw [HE.out]; rfl, HB3.out⟩
            · have hX := HX.out
              rw [List.drop_eq_nil_of_le (by omega), List.any_nil] at hX
              have hh := H.out
              rw [← hX, if_neg (by simp)] at hh
              obtain ⟨bt2, hs2, hh⟩ := Option.bind_eq_some_iff.mp hh
              obtain ⟨o2, n2, e2⟩ := bt2
              have HS2 := Aside0.mk hs2
              have HT := Aside0.mk hh
              have hin : decide (i < l0.length) = false := decide_eq_false hi
              have him : decide ((i : Int) < (l0.length : Int)) = false := decide_eq_false (by omega)
              clear hX hh hs2
              unfold oy_told at HT
              by_cases z1 : e1 = 0
              · subst z1
                have q1 : ((0 : Int) == 0) = true := rfl
                have ht := HT.out
                rw [if_pos rfl] at ht
                by_cases z2 : e2 = 0
                · subst z2
                  rw [if_pos rfl] at ht
                  have HSM := Aside0.mk ht
                  clear ht
                  go_wp2_with (first
                | ((with_reducible refine gate_dst (N := 59) rfl ?_); refine Kd.R_lit (Kd.fixed k41 w) _ 41 ?hg (N := 59) ?hd (xs := ([] : List S41)) (inner := []) (ok := fun _ => True) (okp := fun _ => True) ?hr ?hp (fun _ hk => hk) trivial (Below.refl _ _) (Nat.le_refl _) (by simp) ?_; (case hd => rfl); (case hg => rfl); (case hr => first | (go_simp; done) | (go_simp; rfl)); (case hp => exact (Reps.none _ _)); intro v59 w4 ho hb hg_ hnew_; clear hg_ hnew_; have HO4 := Aside0.mk (Kd.R_lower ho HB3.out.size); have HB4 := Aside0.mk (below_step HB3.out hb); have HP4 := Aside0.mk (Kd.R_below HO3.out hb); clear hb ho)
                | ((with_reducible refine gate_builtin (b := .append) (xs := #[.tmp 59, .tmp 60]) rfl ?_); at_builtin; refine Kd.R_append_rows (Kd.fixed k41 w) (Rr := fun x cs => k41.K w x cs) (w0 := w) w.heap.size rfl (.tmp 59) (.tmp 60) 22 41 (.agg #[(.string ⟨#[]⟩), (.slice none 0 0)]) 40 rfl Try.underlying22 info41 rfl (show 0 < 2 from by decide) (by omega) v59 ([] : List S41) l0 _ _ _ (fun _ => True) (fun _ => False) rfl rfl ?aO ?aR (fun _ _ h => h) (fun _ h => h.elim) ?aF ?aB ?aS ?aL ?_; (case aR => exact (ReadsRow.imp_ HR0.out HB4.out (fun _ _ h => h))); (case aB => exact HB4.out); (case aF => exact (fun _ _ => trivial)); (case aO => exact HO4.out); (case aS => exact HB4.out.size); (case aL => have := H64.out; simp only [List.length_nil]; omega); intro v61 w5 ho hb hg hat; have HO5 := Aside0.mk ho; have HB5 := Aside0.mk hb; have HP5 := Aside0.mk (Kd.R_over' HP4.out (Kd.R_typed HO4.out) (by decide) hg); clear ho hb hg hat)
                | ((with_reducible refine gate_builtin (b := .append) (xs := #[.tmp 61, .tmp 63]) rfl ?_); at_builtin; refine Kd.R_append (Kd.fixed k41 w) (w0 := w) w.heap.size rfl (.tmp 61) (.tmp 63) 22 41 (.agg #[(.string ⟨#[]⟩), (.slice none 0 0)]) 40 rfl Try.underlying22 info41 rfl (show 0 < 2 from by decide) (by omega) v61 ([] ++ l0) (⟨oy_new, []⟩ : S41) [.string (⟨#[78, 101, 119, 32, 111, 110, 101]⟩ : ByteArray), .slice none 0 0] (fun _ => True) (fun _ => False) rfl rfl ?aP (fun _ hk => hk.elim) ?aF ?aO ?aB ?aS ?aL ?_; (case aP => exact (k41_mk w (⟨oy_new, []⟩ : S41) (Nat.le_refl 0) (Kd.C_nil _ _))); (case aB => exact HB5.out); (case aF => exact (fun _ _ => trivial)); (case aO => exact HO5.out); (case aS => exact HB5.out.size); (case aL => have := H64.out; simp only [List.nil_append]; omega); intro v64 w6 ho hb hg hat; have HO6 := Aside0.mk (show (Kd.fixed k41 w).R 41 w6 w.heap.size (fun _ => True) v64 (oy_more l0) from ho); have HB6 := Aside0.mk hb; have HP6 := Aside0.mk (Kd.R_over' HP5.out (Kd.R_typed HO5.out) (by decide) hg); clear ho hb hg hat; obtain ⟨A6, c6, e6, hl6, hC6⟩ := Kd.R_reads HO6.out; subst e6; have HL6 := Aside0.mk hl6; have HC6 := Aside0.mk (show Kd.C k41 w6 A6 (oy_more l0).length (oy_more l0) from (ReadsRow.imp_ hC6 (Below.refl _ _) (fun _ _ h => k41.K_below HB6.out h))); clear hl6 hC6)
                | (go_at_call 12; ((with_reducible refine (order_Sort.calls k A6 c6 (oy_more l0) o2 n2 _ _ HC6.out HL6.out HS2.out).mono ?_)); rintro e w7 ⟨v8, rfl, ho, hb⟩; have HB7 := Aside0.mk (below_step HB6.out hb); have HO7 := Aside0.mk ho; have HP7 := Aside0.mk (Kd.R_below HP6.out hb); clear ho hb; obtain ⟨A8, c8, e8, hl8, hC8⟩ := Kd.R_reads HO7.out; subst e8; have HL8 := Aside0.mk hl8; have HC8 := Aside0.mk hC8; clear hl8 hC8; obtain ⟨A3, c3, e3, hl3, hC3⟩ := Kd.R_reads HP7.out; subst e3; have HL3 := Aside0.mk hl3; have HC3 := Aside0.mk hC3; clear hl3 hC3)
                | ((with_reducible refine gate_dst (N := 78) rfl ?_); (try (refine gate_guard (by rfl) ?_; dsimp only)); refine Kd.R_lit (Kd.int .i64) _ 3 ?hg (N := 78) ?hd (xs := ([] : List Int)) (inner := []) (ok := fun _ => True) (okp := fun _ => True) ?hr ?hp (fun _ hk => hk) trivial (Below.refl _ _) (Nat.le_refl _) (by simp) ?_; (case hd => rfl); (case hg => rfl); (case hr => first | (go_simp; done) | (go_simp; rfl)); (case hp => exact (Reps.none _ _)); intro v78 w9 ho hb hg_ hnew_; clear hg_ hnew_; have HO9 := Aside0.mk ho; have HB9 := Aside0.mk hb; clear hb ho)
                | ((with_reducible refine gate_builtin (b := .append) (xs := #[.tmp 78, .tmp 79]) rfl ?_); (try (refine gate_guard (by rfl) ?_; dsimp only)); at_builtin; refine Kd.R_append_row (Value.int .i64) (0 : Int) (w0 := w7) w7.heap.size rfl (.tmp 78) (.tmp 79) 32 3 (.int .i64 0) 8 rfl Try.underlying32 info3 rfl (by decide) v78 ([] : List Int) o1 A3 o1.length c3 (fun _ => True) rfl rfl (fun _ _ => trivial) HO9.out (Kd.C_below HC3.out HB9.out) HB9.out HB9.out.size (by have := HO1.out; simp only [List.length_nil]; omega) ?_; intro v80 w10 ho hb hg hat; have HO10 := Aside0.mk ho; have HB10 := Aside0.mk hb; clear ho hb hg hat)
                | ((with_reducible refine gate_builtin (b := .append) (xs := #[.tmp 80, .tmp 83]) rfl ?_); (try (refine gate_guard (by rfl) ?_; dsimp only)); at_builtin; refine Kd.R_append (Kd.int .i64) (w0 := w7) w7.heap.size rfl (.tmp 80) (.tmp 83) 32 3 (.int .i64 0) 8 rfl Try.underlying32 info3 rfl (by decide) (by omega) v80 ([] ++ o1) (l0.length : Int) [.int .i64 (l0.length : Int)] (fun _ => True) (fun _ => False) rfl rfl ?bP (fun _ hk => hk.elim) ?bF ?bO ?bB ?bS ?bL ?_; (case bP => exact rfl); (case bB => exact HB10.out); (case bF => exact (fun _ _ => trivial)); (case bO => exact HO10.out); (case bS => exact HB10.out.size); (case bL => have := HO1.out; simp only [List.nil_append]; omega); intro v84 w11 ho hb hg hat; have HO11 := Aside0.mk (show (Kd.int .i64).R 3 w11 w7.heap.size (fun _ => True) v84 (oy_end o1 (l0.length : Int)) from ho); have HB11 := Aside0.mk hb; clear ho hb hg hat; obtain ⟨A11, c11, e11, hl11, hC11⟩ := Kd.R_reads HO11.out; subst e11; have HL11 := Aside0.mk hl11; have HC11 := Aside0.mk hC11; clear hl11 hC11)
                | (go_at_call 14; ((with_reducible refine (pascalinelaw25_same.calls k A8 c8 o2 A11 c11 (oy_end o1 (l0.length : Int)) r _ (Kd.C_below HC8.out HB11.out) HL8.out HC11.out HL11.out HSM.out).mono ?_)); rintro e w12 ⟨rfl, hd⟩; have HB12 := Aside0.mk (below_step (below_step HB7.out HB11.out) hd.below); clear hd))
                  go_ret
                  exact ⟨rfl, HB12.out⟩
                · rw [if_neg z2] at ht
                  injection ht with ht
                  subst ht
                  have q2 : (e2 == 0) = false := beq_eq_false_iff_ne.mpr z2
                  clear z2
                  go_wp2_with (first
                | ((with_reducible refine gate_dst (N := 59) rfl ?_); refine Kd.R_lit (Kd.fixed k41 w) _ 41 ?hg (N := 59) ?hd (xs := ([] : List S41)) (inner := []) (ok := fun _ => True) (okp := fun _ => True) ?hr ?hp (fun _ hk => hk) trivial (Below.refl _ _) (Nat.le_refl _) (by simp) ?_; (case hd => rfl); (case hg => rfl); (case hr => first | (go_simp; done) | (go_simp; rfl)); (case hp => exact (Reps.none _ _)); intro v59 w4 ho hb hg_ hnew_; clear hg_ hnew_; have HO4 := Aside0.mk (Kd.R_lower ho HB3.out.size); have HB4 := Aside0.mk (below_step HB3.out hb); have HP4 := Aside0.mk (Kd.R_below HO3.out hb); clear hb ho)
                | ((with_reducible refine gate_builtin (b := .append) (xs := #[.tmp 59, .tmp 60]) rfl ?_); at_builtin; refine Kd.R_append_rows (Kd.fixed k41 w) (Rr := fun x cs => k41.K w x cs) (w0 := w) w.heap.size rfl (.tmp 59) (.tmp 60) 22 41 (.agg #[(.string ⟨#[]⟩), (.slice none 0 0)]) 40 rfl Try.underlying22 info41 rfl (show 0 < 2 from by decide) (by omega) v59 ([] : List S41) l0 _ _ _ (fun _ => True) (fun _ => False) rfl rfl ?aO ?aR (fun _ _ h => h) (fun _ h => h.elim) ?aF ?aB ?aS ?aL ?_; (case aR => exact (ReadsRow.imp_ HR0.out HB4.out (fun _ _ h => h))); (case aB => exact HB4.out); (case aF => exact (fun _ _ => trivial)); (case aO => exact HO4.out); (case aS => exact HB4.out.size); (case aL => have := H64.out; simp only [List.length_nil]; omega); intro v61 w5 ho hb hg hat; have HO5 := Aside0.mk ho; have HB5 := Aside0.mk hb; have HP5 := Aside0.mk (Kd.R_over' HP4.out (Kd.R_typed HO4.out) (by decide) hg); clear ho hb hg hat)
                | ((with_reducible refine gate_builtin (b := .append) (xs := #[.tmp 61, .tmp 63]) rfl ?_); at_builtin; refine Kd.R_append (Kd.fixed k41 w) (w0 := w) w.heap.size rfl (.tmp 61) (.tmp 63) 22 41 (.agg #[(.string ⟨#[]⟩), (.slice none 0 0)]) 40 rfl Try.underlying22 info41 rfl (show 0 < 2 from by decide) (by omega) v61 ([] ++ l0) (⟨oy_new, []⟩ : S41) [.string (⟨#[78, 101, 119, 32, 111, 110, 101]⟩ : ByteArray), .slice none 0 0] (fun _ => True) (fun _ => False) rfl rfl ?aP (fun _ hk => hk.elim) ?aF ?aO ?aB ?aS ?aL ?_; (case aP => exact (k41_mk w (⟨oy_new, []⟩ : S41) (Nat.le_refl 0) (Kd.C_nil _ _))); (case aB => exact HB5.out); (case aF => exact (fun _ _ => trivial)); (case aO => exact HO5.out); (case aS => exact HB5.out.size); (case aL => have := H64.out; simp only [List.nil_append]; omega); intro v64 w6 ho hb hg hat; have HO6 := Aside0.mk (show (Kd.fixed k41 w).R 41 w6 w.heap.size (fun _ => True) v64 (oy_more l0) from ho); have HB6 := Aside0.mk hb; have HP6 := Aside0.mk (Kd.R_over' HP5.out (Kd.R_typed HO5.out) (by decide) hg); clear ho hb hg hat; obtain ⟨A6, c6, e6, hl6, hC6⟩ := Kd.R_reads HO6.out; subst e6; have HL6 := Aside0.mk hl6; have HC6 := Aside0.mk (show Kd.C k41 w6 A6 (oy_more l0).length (oy_more l0) from (ReadsRow.imp_ hC6 (Below.refl _ _) (fun _ _ h => k41.K_below HB6.out h))); clear hl6 hC6)
                | (go_at_call 12; ((with_reducible refine (order_Sort.calls k A6 c6 (oy_more l0) o2 n2 _ _ HC6.out HL6.out HS2.out).mono ?_)); rintro e w7 ⟨v8, rfl, ho, hb⟩; have HB7 := Aside0.mk (below_step HB6.out hb); have HO7 := Aside0.mk ho; have HP7 := Aside0.mk (Kd.R_below HP6.out hb); clear ho hb; obtain ⟨A8, c8, e8, hl8, hC8⟩ := Kd.R_reads HO7.out; subst e8; have HL8 := Aside0.mk hl8; have HC8 := Aside0.mk hC8; clear hl8 hC8; obtain ⟨A3, c3, e3, hl3, hC3⟩ := Kd.R_reads HP7.out; subst e3; have HL3 := Aside0.mk hl3; have HC3 := Aside0.mk hC3; clear hl3 hC3))
                  go_ret
                  exact ⟨rfl, HB7.out⟩
              · have ht := HT.out
                rw [if_neg z1] at ht
                injection ht with ht
                have q1 : (e1 == 0) = false := beq_eq_false_iff_ne.mpr z1
                have q1b : (e1 != 0) = true := bne_iff_ne.mpr z1
                have HE := Aside0.mk ht
                clear z1 ht
                go_wp2_with (first
                | ((with_reducible refine gate_dst (N := 59) rfl ?_); refine Kd.R_lit (Kd.fixed k41 w) _ 41 ?hg (N := 59) ?hd (xs := ([] : List S41)) (inner := []) (ok := fun _ => True) (okp := fun _ => True) ?hr ?hp (fun _ hk => hk) trivial (Below.refl _ _) (Nat.le_refl _) (by simp) ?_; (case hd => rfl); (case hg => rfl); (case hr => first | (go_simp; done) | (go_simp; rfl)); (case hp => exact (Reps.none _ _)); intro v59 w4 ho hb hg_ hnew_; clear hg_ hnew_; have HO4 := Aside0.mk (Kd.R_lower ho HB3.out.size); have HB4 := Aside0.mk (below_step HB3.out hb); have HP4 := Aside0.mk (Kd.R_below HO3.out hb); clear hb ho)
                | ((with_reducible refine gate_builtin (b := .append) (xs := #[.tmp 59, .tmp 60]) rfl ?_); at_builtin; refine Kd.R_append_rows (Kd.fixed k41 w) (Rr := fun x cs => k41.K w x cs) (w0 := w) w.heap.size rfl (.tmp 59) (.tmp 60) 22 41 (.agg #[(.string ⟨#[]⟩), (.slice none 0 0)]) 40 rfl Try.underlying22 info41 rfl (show 0 < 2 from by decide) (by omega) v59 ([] : List S41) l0 _ _ _ (fun _ => True) (fun _ => False) rfl rfl ?aO ?aR (fun _ _ h => h) (fun _ h => h.elim) ?aF ?aB ?aS ?aL ?_; (case aR => exact (ReadsRow.imp_ HR0.out HB4.out (fun _ _ h => h))); (case aB => exact HB4.out); (case aF => exact (fun _ _ => trivial)); (case aO => exact HO4.out); (case aS => exact HB4.out.size); (case aL => have := H64.out; simp only [List.length_nil]; omega); intro v61 w5 ho hb hg hat; have HO5 := Aside0.mk ho; have HB5 := Aside0.mk hb; have HP5 := Aside0.mk (Kd.R_over' HP4.out (Kd.R_typed HO4.out) (by decide) hg); clear ho hb hg hat)
                | ((with_reducible refine gate_builtin (b := .append) (xs := #[.tmp 61, .tmp 63]) rfl ?_); at_builtin; refine Kd.R_append (Kd.fixed k41 w) (w0 := w) w.heap.size rfl (.tmp 61) (.tmp 63) 22 41 (.agg #[(.string ⟨#[]⟩), (.slice none 0 0)]) 40 rfl Try.underlying22 info41 rfl (show 0 < 2 from by decide) (by omega) v61 ([] ++ l0) (⟨oy_new, []⟩ : S41) [.string (⟨#[78, 101, 119, 32, 111, 110, 101]⟩ : ByteArray), .slice none 0 0] (fun _ => True) (fun _ => False) rfl rfl ?aP (fun _ hk => hk.elim) ?aF ?aO ?aB ?aS ?aL ?_; (case aP => exact (k41_mk w (⟨oy_new, []⟩ : S41) (Nat.le_refl 0) (Kd.C_nil _ _))); (case aB => exact HB5.out); (case aF => exact (fun _ _ => trivial)); (case aO => exact HO5.out); (case aS => exact HB5.out.size); (case aL => have := H64.out; simp only [List.nil_append]; omega); intro v64 w6 ho hb hg hat; have HO6 := Aside0.mk (show (Kd.fixed k41 w).R 41 w6 w.heap.size (fun _ => True) v64 (oy_more l0) from ho); have HB6 := Aside0.mk hb; have HP6 := Aside0.mk (Kd.R_over' HP5.out (Kd.R_typed HO5.out) (by decide) hg); clear ho hb hg hat; obtain ⟨A6, c6, e6, hl6, hC6⟩ := Kd.R_reads HO6.out; subst e6; have HL6 := Aside0.mk hl6; have HC6 := Aside0.mk (show Kd.C k41 w6 A6 (oy_more l0).length (oy_more l0) from (ReadsRow.imp_ hC6 (Below.refl _ _) (fun _ _ h => k41.K_below HB6.out h))); clear hl6 hC6)
                | (go_at_call 12; ((with_reducible refine (order_Sort.calls k A6 c6 (oy_more l0) o2 n2 _ _ HC6.out HL6.out HS2.out).mono ?_)); rintro e w7 ⟨v8, rfl, ho, hb⟩; have HB7 := Aside0.mk (below_step HB6.out hb); have HO7 := Aside0.mk ho; have HP7 := Aside0.mk (Kd.R_below HP6.out hb); clear ho hb; obtain ⟨A8, c8, e8, hl8, hC8⟩ := Kd.R_reads HO7.out; subst e8; have HL8 := Aside0.mk hl8; have HC8 := Aside0.mk hC8; clear hl8 hC8; obtain ⟨A3, c3, e3, hl3, hC3⟩ := Kd.R_reads HP7.out; subst e3; have HL3 := Aside0.mk hl3; have HC3 := Aside0.mk hC3; clear hl3 hC3))
                go_ret
                exact ⟨by rw [← HE.out]; rfl, HB7.out⟩
        · rw [if_neg ho1] at h; exact absurd h (by simp)
      · rw [if_neg h64] at h
        injection h with h
        subst h
        have hge : decide ((l0.length : Int) ≥ 64) = true := decide_eq_true (by omega)
        have hge2 : decide (64 ≤ (l0.length : Int)) = true := decide_eq_true (by omega)
        clear h64
        go_enter Try.func5, Try.ntmps5
        go_wp2_with (first
          | (go_at_call 7; ((with_reducible refine (pascalinelaw25_awake.calls k true _ HAW.out).mono ?_)); rintro e w1 ⟨rfl, hb⟩; have HB1 := Aside0.mk hb; clear hb)
          | (go_at_call 8; ((with_reducible refine (pascalinelaw25_few.calls k A0 c0 l0 true _ (Kd.C_below HR0.out HB1.out) HC0.out HFW.out).mono ?_)); rintro e w2 ⟨rfl, hb⟩; have HB2 := Aside0.mk (below_step HB1.out hb.below); clear hb))
        go_ret
        exact ⟨rfl, HB2.out⟩

end Go.Proofs.Ytnfgncapmkpcjaa.P

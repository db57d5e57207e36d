-- Written by a program of this session (wip/tools/hp.py) out of the translation.
import Derived.Test.YtbhccjoodlldbaaPx0
import Derived.Test.YtbhccjoodlldbaaPx11
namespace Go.Proofs.Ytbhccjoodlldbaa.P
open Go.RowKit Go.Proofs.YtbhccjoodlldbaaW.PrintWords Go.Proofs.YtbhccjoodlldbaaW.PrintLast Go.Proofs.YtbhccjoodlldbaaW.PrintMore
attribute [local go_sem] max2_int min2_int max_two min_two max_three min_three max_four min_four   -- for this text's walks alone
set_option linter.unusedVariables false
set_option linter.unusedSimpArgs false

/-! ### pascalineref33_Hot: function 11 -/
theorem ht_cut_hm (A : Option Addr) (n c j : Nat) (hj : j ≤ n) (hc : n ≤ c) : ∀ W : World, (Instr.slice 31 (.slice A n c) none (some (.int .i64 (j : Int))) (some (.int .i64 (j : Int)))).run Try.prog W = .ok (.slice A j j) W := by
  intro W
  obtain ⟨i0, hi0, _, hz0, _⟩ := info_parts info3
  have hel : Try.prog.elem 31 = 3 := by simp [Program.elem, Try.underlying31]
  have hu : Try.prog.underlying 31 = some (.slice (Try.prog.elem 31)) := by rw [hel]; exact Try.underlying31
  have ha : (A.map fun x => x.add 0) = A := by cases A <;> simp [Addr.add]
  rw [run_slice_hm W 31 A n c hu .i64 .i64 (j : Int) (j : Int) (by omega) (by omega) (by omega), hel]
  simp [sizeOf, typeInfo, hi0, sliced, Result.andThen, ha]
theorem ht_cut_l (A : Option Addr) (n c j : Nat) (hj : j ≤ n) (hc : n ≤ c) {xs : List Int} (hx : xs.length = n) : ∃ A1, (∀ W : World, (Instr.slice 31 (.slice A n c) (some (.int .i64 (j : Int))) none none).run Try.prog W = .ok (.slice A1 (n - j) (c - j)) W) ∧ ∀ W : World, Kd.C (Kd.int .i64) W A n xs → Kd.C (Kd.int .i64) W A1 (n - j) (xs.drop j) := by
  obtain ⟨i0, hi0, _, hz0, _⟩ := info_parts info3
  have h := cut_from (P := Try.prog) 31 3 .i64 Try.underlying31 hi0 1 hz0 A n c (j : Int) (by omega) (by omega)
  rw [Int.toNat_natCast] at h
  refine ⟨_, h, fun W hC => ?_⟩
  subst hx
  have := Kd.C_drop (m := j) hC hj hc
  rw [List.length_drop] at this
  exact this
theorem ht_R_of_own {w : World} {base : Nat} {v : Value} {xs : List Int} (h : w.ownsRow base 3 1 v xs.length (xs.map (Value.int .i64))) : Kd.R (Kd.int .i64) 3 w base (fun _ => True) v xs := by
  refine ⟨fun _ _ => trivial, _, h, ?_, fun j q hq => ?_⟩
  · show _ = xs.length * 1
    rw [List.length_map, Nat.mul_one]
  · show ((xs.map (Value.int .i64)).drop (j * 1)).take 1 = [Value.int .i64 q]
    rw [Nat.mul_one]
    refine List.ext_getElem? fun i => ?_
    rw [List.getElem?_take, List.getElem?_drop]
    cases i with
    | zero => rw [if_pos (by omega), Nat.add_zero, List.getElem?_map, hq]; rfl
    | succ i => rw [if_neg (by omega)]; rfl
/-- append onto a row that is full: always new memory. -/
theorem ht_app_full {ops : Array Oper} {rest : List Oper} {o : Oper} {a : Act} {Q : Exit → Act → World → Prop} {w0 W : World} (base : Nat) (hgd : o.guard = none) (s x : Operand)
    (ho : o.op = .call { callee := .builtin .append, args := #[s, x], argTypes := #[31, 31] }) (A : Option Addr) (n : Nat) (xs : List Int) (q : Int) (hn : xs.length = n) (hC : Kd.C (Kd.int .i64) W A n xs) (hs : a.eval s = .slice A n n) (hx : a.eval x = .slice (some ⟨W.heap.size, 0, none⟩) 1 1)
    (HB : Below base w0 W) (hbase : base ≤ W.heap.size) (hl : n ≤ 1000000)
    (h : ∀ v1 w1, Kd.R (Kd.int .i64) 3 w1 base (fun _ => True) v1 (xs ++ [q]) → Below base w0 w1 → Below W.heap.size W w1 → wpList Try.prog ops Q rest (a.put o.dst v1) w1) :
    wpList Try.prog ops Q (o :: rest) a (W.alloc (.cells #[.int .i64 q] 3)) := by
  obtain ⟨i0, hi0, hz0, hz1, hz2⟩ := info_parts info3
  have hcell : ∀ b, A = some b → ∀ j u, (xs.map (Value.int .i64))[j]? = some u → (W.alloc (.cells #[.int .i64 q] 3)).cell? (b.add j) = some u := by
    intro b hb j u hu
    rw [List.getElem?_map] at hu
    cases e : xs[j]? with
    | none => rw [e] at hu; cases hu
    | some y =>
      rw [e] at hu
      have hy := Option.some.inj hu
      have hj : j < xs.length := (List.getElem?_eq_some_iff.1 e).1
      obtain ⟨ad, e1, hc⟩ := hC.2.2 (by omega)
      rw [hb] at e1
      cases e1
      obtain ⟨c, c1, c2, c3⟩ := hc j y e
      have c2' : c = [Value.int .i64 y] := c2
      have := c3 0 (.int .i64 y) (by rw [c2']; rfl)
      have h3 : W.cell? (b.add j) = some (.int .i64 y) := by simpa [Kd.int, Kd.scalar] using this
      rw [World.cell?_alloc_lt _ _ _ (World.block_lt_of_cell? W _ h3), h3]
      exact congrArg some hy
  refine wpList_append_grows (W.alloc (.cells #[.int .i64 q] 3)) hgd s x 31 ho 3 i0 (.int .i64 0) 1 8 Try.underlying31 hi0 hz0 hz1 hz2 rfl (by omega) A n n (xs.map (Value.int .i64)) hs (fun hA => ?_) (by rw [List.length_map, hn, Nat.mul_one]) hcell
    ⟨W.heap.size, 0, none⟩ 1 1 [.int .i64 q] hx rfl (World.news_of_block (cs := #[.int .i64 q]) (t := 3) (fr := (0, 0)) (heap_alloc_new W _)) (by intro u hu; rw [List.mem_singleton.1 hu]; rfl) (by omega) (by simp only [maxLen]; omega) (by omega) ?_
  · have : n = 0 := by
      rcases Nat.eq_zero_or_pos n with h0 | h0
      · exact h0
      · obtain ⟨ad, e, _⟩ := hC.2.2 h0
        rw [hA] at e
        cases e
    exact ⟨this, this⟩
  · intro v1 w1 hown hg
    have hown2 : w1.ownsRow base 3 1 v1 (xs ++ [q]).length ((xs ++ [q]).map (Value.int .i64)) := by
      rw [List.length_append, List.map_append, hn]
      exact own_weaken hown (by rw [World.size_alloc]; omega)
    have hb1 : Below W.heap.size W w1 := (below_alloc (Below.refl _ _) _).grown hg (by rw [World.size_alloc]; omega) (fun k hk => by cases hk)
    exact h v1 w1 (ht_R_of_own hown2) (HB.trans (hb1.mono hbase)) hb1
def pascalineref33_Hot.f (l0 : List Int) (a1 : Int) : Option (List Int) := cover_Hot.f l0 a1
set_option maxHeartbeats 8000000 in
set_option maxRecDepth 100000 in
theorem pascalineref33_Hot.calls (A0 : Option Addr) (c0 : Nat) (l0 : List Int) (a1 : Int) (r : List Int) (w : World) (hr0 : Kd.C (Kd.int .i64) w A0 l0.length l0) (hc0 : l0.length ≤ c0) (h : pascalineref33_Hot.f l0 a1 = some r) :
    Calls Try.prog 11 #[.slice A0 l0.length c0, .int .i64 a1] w fun e w' => ∃ v0_ : Value, e = .returned (v0_) ∧ Kd.R (Kd.int .i64) 3 w' w.heap.size (fun _ => True) v0_ r ∧ Below w.heap.size w w' := by
  unfold pascalineref33_Hot.f cover_Hot.f at h
  by_cases hl : l0.length ≤ 1000000
  · rw [if_pos hl] at h
    have HRES := Aside0.mk (Option.some.inj h)
    have HL := Aside0.mk hl
    have HR := Aside0.mk hr0
    clear h hr0 hc0
    have hlz : (l0.length : Int) ≤ 1000000 := by omega
    clear hl
    have mixed : Try.prog.follows .mixedOrders = true := by kernel_rfl
    go_enter Try.func11, Try.ntmps11
    go_wp2
    go_loopg [5, 6] (l0.length + 1) (fun kx s5 s6 wr => ∃ k : Nat, s6 = .int .i64 k ∧ Aside0 (k + kx = l0.length + 1 ∧ k ≤ l0.length) ∧ Aside0 (Kd.R (Kd.int .i64) 3 wr w.heap.size (fun _ => True) s5 (C.ht_all (rd l0) k)) ∧ Aside0 (Below w.heap.size w wr))
    case atStart => exact ⟨0, rfl, ⟨by omega, by omega⟩, ⟨Kd.R_nil _ _ _ _ _⟩, ⟨Below.refl _ _⟩⟩
    case round =>
      obtain ⟨k, rfl, HK, HO, HBW⟩ := hrel
      obtain ⟨L, hL⟩ : ∃ L, C.ht_all (rd l0) k = L := ⟨_, rfl⟩
      have HLL := Aside0.mk hL
      rw [hL] at HO
      have hLlen : L.length ≤ k := by rw [← hL, C.ht_all_len]; exact C.ht_pos_le _ _
      have HLT : Aside0 (∀ x ∈ L, 0 ≤ x ∧ x < (k : Int)) := ⟨by rw [← hL]; exact C.ht_all_lt _ _⟩
      have HNN : Aside0 (L.length ≤ 1000000) := ⟨by have := HK.out; have := HL.out; omega⟩
      clear hL hLlen
      obtain ⟨A, c, hA⟩ := Kd.R_slice HO.out
      subst hA
      by_cases hk : k < l0.length
      · obtain ⟨adv, e, cx⟩ := Kd.at_int HR.out (k : Int) (by omega) (by omega)
        cases e
        rw [Int.toNat_natCast] at cx
        have CX := Aside0.mk cx
        replace cx := pw_cell_below HBW.out cx
        have k0 : (0 : Int) ≤ (k : Int) := by omega
        have k1 : (k : Int) < (l0.length : Int) := by omega
        have HH := Aside0.mk hk
        clear hk
        by_cases hp : rd l0 (k : Int) < 1
        · have HP : Aside0 (C.ht_all (rd l0) (k + 1) = L) := ⟨by rw [← HLL.out]; show (if 0 < rd l0 (k : Int) then _ else _) = _; rw [if_neg (by omega)]⟩
          generalize rd l0 (k : Int) = y at cx hp
          go_wp2
          go_roundg (l0.length - k)
          case measure => have := HK.out; have := HH.out; omega
          case rel => exact ⟨k + 1, by first | rfl | go_num, ⟨by have := HK.out; have := HH.out; omega, by have := HH.out; omega⟩, ⟨by rw [HP.out]; exact HO.out⟩, HBW⟩
        · have HP : Aside0 (0 < rd l0 (k : Int)) := ⟨by omega⟩
          have hyk : Aside0 (∃ y, rd l0 (k : Int) = y) := ⟨⟨_, rfl⟩⟩
          have hlt1 : ¬ rd l0 (k : Int) < 1 := hp
          clear hp
          obtain ⟨y, hy⟩ : ∃ y, rd l0 (k : Int) = y := ⟨_, rfl⟩
          rw [hy] at cx hlt1
          have HY := Aside0.mk hy
          clear hy hyk
          go_wp2_with fail
          have hNz : (L.length : Int) ≤ 1000000 := by have := HNN.out; omega
          go_loopg [7] (L.length + 1) (fun kx s7 wq => ∃ j q : Nat, s7 = .int .i64 j ∧ Aside0 (j + kx = L.length + 1 ∧ j ≤ L.length) ∧ Aside0 (∀ i, i < j → rd l0 (k : Int) ≤ rd l0 (L.getD i 0)) ∧ wq = wr.drewN q)
          case atStart => exact ⟨0, 0, rfl, ⟨by omega, by omega⟩, ⟨fun i hi => by omega⟩, rfl⟩
          case round =>
            obtain ⟨j, q, rfl, HJ, HS, rfl⟩ := hrel
            have cx' : (wr.drewN q).cell? (adv.add k) = some (.int .i64 y) := cx
            by_cases hj : j < L.length
            · obtain ⟨ado, e, co⟩ := Kd.at_int (Kd.R_reads' HO.out).2.2 (j : Int) (by omega) (by omega)
              cases e
              rw [Int.toNat_natCast] at co
              have hmem : rd L (j : Int) ∈ L := by
                unfold rd
                rw [Int.toNat_natCast, List.getD_eq_getElem?_getD, List.getElem?_eq_getElem hj]
                exact List.getElem_mem _
              have hrg := HLT.out _ hmem
              have hrd : rd L (j : Int) = L.getD j 0 := by unfold rd; rw [Int.toNat_natCast]
              obtain ⟨adv', e, cv⟩ := Kd.at_int HR.out (rd L (j : Int)) hrg.1 (by have := HH.out; omega)
              cases e
              have cv := pw_cell_below HBW.out cv
              rw [hrd] at co cv hrg
              obtain ⟨x, hx⟩ : ∃ x, L.getD j 0 = x := ⟨_, rfl⟩
              rw [hx] at co cv hrg
              obtain ⟨z, hz⟩ : ∃ z, rd l0 x = z := ⟨_, rfl⟩
              rw [hz] at cv
              have HX := Aside0.mk (And.intro hx hz)
              have co' : (wr.drewN q).cell? (ado.add j) = some (.int .i64 x) := co
              have cv' : (wr.drewN q).cell? (adv.add x.toNat) = some (.int .i64 z) := cv
              have j1 : (j : Int) < (L.length : Int) := by omega
              have j1d : decide ((j : Int) < (L.length : Int)) = true := decide_eq_true j1
              have j0 : (0 : Int) ≤ (j : Int) := by omega
              have x0 : 0 ≤ x := hrg.1
              have x1 : x < (l0.length : Int) := by have := HH.out; omega
              have HJJ := Aside0.mk hj
              clear hrg hmem hrd hx hz hj
              by_cases hge : y ≤ z
              · have hged : decide (z ≥ y) = true := decide_eq_true hge
                go_wp2_with fail
                go_quiet (fail)
                go_wp2
                go_roundg (L.length - j)
                case measure => have := HJ.out; have := HJJ.out; omega
                case rel => exact ⟨j + 1, _, by first | rfl | go_num, ⟨by have := HJ.out; have := HJJ.out; omega, by have := HJJ.out; omega⟩, ⟨fun i hi => by
                  rcases Nat.lt_or_ge i j with h1 | h1
                  · exact HS.out i h1
                  · have : i = j := by omega
                    subst this
                    rw [HX.out.1, HX.out.2, HY.out]
                    exact hge⟩, rfl⟩
              · have hged : decide (z ≥ y) = false := decide_eq_false (by omega)
                have HG := Aside0.mk hge
                go_wp2_with fail
                go_quiet (fail)
                obtain ⟨W, hW⟩ : ∃ W : World, (wr.drewN q).drewN nq = W := ⟨_, rfl⟩
                have HRW : Aside0 (Kd.R (Kd.int .i64) 3 W w.heap.size (fun _ => True) (.slice (some ado) L.length c) L) := ⟨by rw [← hW]; (with_reducible repeat (first | apply Kd.R_drewN | apply Kd.R_drew)); exact HO.out⟩
                have HBW2 : Aside0 (Below w.heap.size w W) := ⟨by rw [← hW]; repeat (first | (with_reducible first | exact HBW.out | apply pw_below_drewN | apply below_drew1) | exact HBW.out)⟩
                rw [hW]
                clear hW
                obtain ⟨A1, hcf, hC1⟩ := ht_cut_l (some ado) L.length c j (by have := HJ.out; omega) (by have := (Kd.R_reads' HRW.out).2.1; omega) (xs := L) rfl
                obtain ⟨T, hT⟩ : ∃ T, L.drop j = T := ⟨_, rfl⟩
                have hTl : L.length - j = T.length := by rw [← hT, List.length_drop]
                rw [hTl] at hcf
                have HC1 : Aside0 (Kd.C (Kd.int .i64) W A1 T.length T) := ⟨by have := hC1 W (Kd.R_reads' HRW.out).2.2; rw [hT, hTl] at this; exact this⟩
                have HTL : Aside0 (L.drop j = T ∧ L.length - j = T.length) := ⟨hT, hTl⟩
                clear hT hTl hC1
                have hch := ht_cut_hm (some ado) L.length c j (by have := HJ.out; omega) (by have := (Kd.R_reads' HRW.out).2.1; omega)
                have HCT0 : Aside0 (Kd.C (Kd.int .i64) W (some ado) j (L.take j)) := ⟨by
                  have := Kd.C_take (m := j) (Kd.R_reads' HRW.out).2.2 (by have := HJ.out; omega)
                  rw [List.length_take, show min j L.length = j by have := HJ.out; omega] at this
                  exact this⟩
                have hjz0 : (0 : Int) ≤ (j : Int) := by omega
                clear HO HBW
                go_wp2_with (first | ((with_reducible refine gate_dst (N := 40) rfl ?_); refine Kd.R_lit (Kd.int .i64) _ 3 ?hg (N := 40) ?hd (xs := ([] : List Int)) (inner := []) (ok := fun _ => True) (okp := fun _ => True) ?hr ?hp (fun _ hk => hk) trivial (Below.refl _ _) (Nat.le_refl _) (by simp) ?_; (case hd => rfl); (case hg => rfl); (case hr => first | (go_simp; done) | (go_simp; rfl)); (case hp => exact (Reps.none _ _)); intro v40 w6 ho hb hg_ hnew_; have HE := Aside0.mk ho; have HB6 := Aside0.mk hb; have HC6 := Aside0.mk (Kd.C_below HC1.out hb); clear hg_ hnew_ ho hb HC1) | ((with_reducible refine gate_builtin (b := .append) (xs := #[.tmp 40, .tmp 43]) rfl ?_); at_builtin; refine Kd.R_append_rows (Kd.int .i64) (w0 := W) W.heap.size rfl (.tmp 40) (.tmp 43) 31 3 (.int .i64 0) 8 rfl Try.underlying31 info3 rfl (by decide) (by omega) v40 ([] : List Int) T _ _ _ (fun _ => True) (fun _ => False) rfl rfl ?aO ?aR (fun _ _ h => h) (fun _ h => h.elim) ?aF ?aB ?aS ?aL ?_; (case aR => exact HC6.out); (case aB => exact HB6.out); (case aF => exact (fun _ _ => trivial)); (case aO => exact HE.out); (case aS => exact HB6.out.size); (case aL => simp only [List.length_nil]; have := HNN.out; have := HTL.out; omega); intro v44 w7 ho hb hg hat; rw [List.nil_append] at ho; obtain ⟨A8, c8, rfl⟩ := Kd.R_slice ho; have HB7 := Aside0.mk hb; have HC8 := Aside0.mk (Kd.R_reads' ho).2.2; have HCT := Aside0.mk (Kd.C_below HCT0.out hb); clear ho hb hg hat HE HC6 HB6) | ((with_reducible refine gate_builtin (b := .append) (xs := #[.tmp 48, .tmp 50]) rfl ?_); at_builtin; refine ht_app_full (w0 := w) w.heap.size rfl (.tmp 48) (.tmp 50) rfl (some ado) j (L.take j) (k : Int) ?aN ?aC rfl rfl ?aB ?aS ?aL ?_; (case aN => rw [List.length_take]; have := HJ.out; omega); (case aC => exact HCT.out); (case aB => exact below_step HBW2.out HB7.out); (case aS => exact (below_step HBW2.out HB7.out).size); (case aL => have := HJ.out; have := HNN.out; omega); intro v51 w8 ho hb hb2; have HR9 := Aside0.mk ho; have HB8 := Aside0.mk hb; have HC9 := Aside0.mk (Kd.C_below HC8.out hb2); clear ho hb hb2 HCT HC8) | ((with_reducible refine gate_builtin (b := .append) (xs := #[.tmp 51, .tmp 52]) rfl ?_); at_builtin; refine Kd.R_append_rows (Kd.int .i64) (w0 := w) w.heap.size rfl (.tmp 51) (.tmp 52) 31 3 (.int .i64 0) 8 rfl Try.underlying31 info3 rfl (by decide) (by omega) v51 (L.take j ++ [(k : Int)]) T _ _ _ (fun _ => True) (fun _ => False) rfl rfl ?aO ?aR (fun _ _ h => h) (fun _ h => h.elim) ?aF ?aB ?aS ?aL ?_; (case aR => exact HC9.out); (case aB => exact HB8.out); (case aF => exact (fun _ _ => trivial)); (case aO => exact HR9.out); (case aS => exact HB8.out.size); (case aL => have := HJ.out; have := HNN.out; have := HTL.out; simp only [List.length_append, List.length_take, List.length_singleton]; omega); intro v53 w9 ho hb hg hat; have HR10 := Aside0.mk ho; have HB9 := Aside0.mk hb; clear ho hb hg hat HR9 HC9 HB8))
                go_roundg (l0.length - k)
                case measure => have := HK.out; have := HH.out; omega
                case rel =>
                  refine ⟨k + 1, by first | rfl | go_num, ⟨by have := HK.out; have := HH.out; omega, by have := HH.out; omega⟩, ⟨?_⟩, HB9⟩
                  have e : C.ht_all (rd l0) (k + 1) = C.ht_ins (rd l0) (k : Int) L := by rw [← HLL.out]; show (if 0 < rd l0 (k : Int) then _ else _) = _; rw [if_pos HP.out]
                  rw [e, C.ht_ins_at (rd l0) (k : Int) L j (by have := HJ.out; omega) HS.out (fun _ => by rw [HX.out.1, HX.out.2, HY.out]; have := HG.out; omega), HTL.out.1]
                  exact HR10.out
            · have j1 : ¬ (j : Int) < (L.length : Int) := by omega
              have j1d : decide ((j : Int) < (L.length : Int)) = false := decide_eq_false j1
              have j1n : decide (j < L.length) = false := decide_eq_false hj
              have HJJ := Aside0.mk hj
              go_wp2_with fail
              first | go_quiet (fail) | go_big_region_o
              obtain ⟨W, hW⟩ : ∃ W : World, (wr.drewN q).drewN nq = W := ⟨_, rfl⟩
              have HRW : Aside0 (Kd.R (Kd.int .i64) 3 W w.heap.size (fun _ => True) (.slice A L.length c) L) := ⟨by rw [← hW]; (with_reducible repeat (first | apply Kd.R_drewN | apply Kd.R_drew)); exact HO.out⟩
              have HBW2 : Aside0 (Below w.heap.size w W) := ⟨by rw [← hW]; repeat (first | (with_reducible first | exact HBW.out | apply pw_below_drewN | apply below_drew1) | exact HBW.out)⟩
              rw [hW]
              clear hW
              obtain ⟨A1, hcf, hC1⟩ := ht_cut_l A L.length c j (by have := HJ.out; omega) (by have := (Kd.R_reads' HRW.out).2.1; omega) (xs := L) rfl
              obtain ⟨T, hT⟩ : ∃ T, L.drop j = T := ⟨_, rfl⟩
              have hTl : L.length - j = T.length := by rw [← hT, List.length_drop]
              rw [hTl] at hcf
              have HC1 : Aside0 (Kd.C (Kd.int .i64) W A1 T.length T) := ⟨by have := hC1 W (Kd.R_reads' HRW.out).2.2; rw [hT, hTl] at this; exact this⟩
              have HTL : Aside0 (L.drop j = T ∧ L.length - j = T.length) := ⟨hT, hTl⟩
              clear hT hTl hC1
              have hch := ht_cut_hm A L.length c j (by have := HJ.out; omega) (by have := (Kd.R_reads' HRW.out).2.1; omega)
              have HCT0 : Aside0 (Kd.C (Kd.int .i64) W A j (L.take j)) := ⟨by
                have := Kd.C_take (m := j) (Kd.R_reads' HRW.out).2.2 (by have := HJ.out; omega)
                rw [List.length_take, show min j L.length = j by have := HJ.out; omega] at this
                exact this⟩
              have hjz0 : (0 : Int) ≤ (j : Int) := by omega
              clear HO HBW
              go_wp2_with (first | ((with_reducible refine gate_dst (N := 40) rfl ?_); refine Kd.R_lit (Kd.int .i64) _ 3 ?hg (N := 40) ?hd (xs := ([] : List Int)) (inner := []) (ok := fun _ => True) (okp := fun _ => True) ?hr ?hp (fun _ hk => hk) trivial (Below.refl _ _) (Nat.le_refl _) (by simp) ?_; (case hd => rfl); (case hg => rfl); (case hr => first | (go_simp; done) | (go_simp; rfl)); (case hp => exact (Reps.none _ _)); intro v40 w6 ho hb hg_ hnew_; have HE := Aside0.mk ho; have HB6 := Aside0.mk hb; have HC6 := Aside0.mk (Kd.C_below HC1.out hb); clear hg_ hnew_ ho hb HC1) | ((with_reducible refine gate_builtin (b := .append) (xs := #[.tmp 40, .tmp 43]) rfl ?_); at_builtin; refine Kd.R_append_rows (Kd.int .i64) (w0 := W) W.heap.size rfl (.tmp 40) (.tmp 43) 31 3 (.int .i64 0) 8 rfl Try.underlying31 info3 rfl (by decide) (by omega) v40 ([] : List Int) T _ _ _ (fun _ => True) (fun _ => False) rfl rfl ?aO ?aR (fun _ _ h => h) (fun _ h => h.elim) ?aF ?aB ?aS ?aL ?_; (case aR => exact HC6.out); (case aB => exact HB6.out); (case aF => exact (fun _ _ => trivial)); (case aO => exact HE.out); (case aS => exact HB6.out.size); (case aL => simp only [List.length_nil]; have := HNN.out; have := HTL.out; omega); intro v44 w7 ho hb hg hat; rw [List.nil_append] at ho; obtain ⟨A8, c8, rfl⟩ := Kd.R_slice ho; have HB7 := Aside0.mk hb; have HC8 := Aside0.mk (Kd.R_reads' ho).2.2; have HCT := Aside0.mk (Kd.C_below HCT0.out hb); clear ho hb hg hat HE HC6 HB6) | ((with_reducible refine gate_builtin (b := .append) (xs := #[.tmp 48, .tmp 50]) rfl ?_); at_builtin; refine ht_app_full (w0 := w) w.heap.size rfl (.tmp 48) (.tmp 50) rfl A j (L.take j) (k : Int) ?aN ?aC rfl rfl ?aB ?aS ?aL ?_; (case aN => rw [List.length_take]; have := HJ.out; omega); (case aC => exact HCT.out); (case aB => exact below_step HBW2.out HB7.out); (case aS => exact (below_step HBW2.out HB7.out).size); (case aL => have := HJ.out; have := HNN.out; omega); intro v51 w8 ho hb hb2; have HR9 := Aside0.mk ho; have HB8 := Aside0.mk hb; have HC9 := Aside0.mk (Kd.C_below HC8.out hb2); clear ho hb hb2 HCT HC8) | ((with_reducible refine gate_builtin (b := .append) (xs := #[.tmp 51, .tmp 52]) rfl ?_); at_builtin; refine Kd.R_append_rows (Kd.int .i64) (w0 := w) w.heap.size rfl (.tmp 51) (.tmp 52) 31 3 (.int .i64 0) 8 rfl Try.underlying31 info3 rfl (by decide) (by omega) v51 (L.take j ++ [(k : Int)]) T _ _ _ (fun _ => True) (fun _ => False) rfl rfl ?aO ?aR (fun _ _ h => h) (fun _ h => h.elim) ?aF ?aB ?aS ?aL ?_; (case aR => exact HC9.out); (case aB => exact HB8.out); (case aF => exact (fun _ _ => trivial)); (case aO => exact HR9.out); (case aS => exact HB8.out.size); (case aL => have := HJ.out; have := HNN.out; have := HTL.out; simp only [List.length_append, List.length_take, List.length_singleton]; omega); intro v53 w9 ho hb hg hat; have HR10 := Aside0.mk ho; have HB9 := Aside0.mk hb; clear ho hb hg hat HR9 HC9 HB8))
              go_roundg (l0.length - k)
              case measure => have := HK.out; have := HH.out; omega
              case rel =>
                refine ⟨k + 1, by first | rfl | go_num, ⟨by have := HK.out; have := HH.out; omega, by have := HH.out; omega⟩, ⟨?_⟩, HB9⟩
                have e : C.ht_all (rd l0) (k + 1) = C.ht_ins (rd l0) (k : Int) L := by rw [← HLL.out]; show (if 0 < rd l0 (k : Int) then _ else _) = _; rw [if_pos HP.out]
                rw [e, C.ht_ins_at (rd l0) (k : Int) L j (by have := HJ.out; omega) HS.out (fun hh => absurd hh HJJ.out), HTL.out.1]
                exact HR10.out
      · have k1 : ¬ (k : Int) < (l0.length : Int) := by omega
        have hke : k = l0.length := by have := HK.out; omega
        subst hke
        obtain ⟨i0, hi0, _, hz0, _⟩ := info_parts info3
        have hNc : L.length ≤ c := by have := (Kd.R_reads' HO.out).2.1; omega
        clear hk hz0
        by_cases c0 : a1 < 0
        · have HM : Aside0 ((max 0 (min a1 (L.length : Int))).toNat = 0) := ⟨by omega⟩
          go_wp2
          go_ret
          refine ⟨_, rfl, ?_, HBW.out⟩
          rw [← HRES.out, HLL.out, HM.out, List.take_zero]
          exact Kd.R_nil _ _ _ _ _
        · by_cases c1 : (L.length : Int) < a1
          · skip
            have hcut := cut_to (P := Try.prog) 31 3 .i64 Try.underlying31 hi0 A L.length c (L.length : Int) (by omega) (by omega) hNc
            have HM : Aside0 (max 0 (min a1 (L.length : Int)) = (L.length : Int) ∧ 0 ≤ ((L.length : Int) : Int) ∧ ((L.length : Int) : Int) ≤ (L.length : Int)) := ⟨by omega, by omega, by omega⟩
            clear hi0 hNc
            go_wp2
            go_ret
            refine ⟨_, rfl, ?_, HBW.out⟩
            have := Kd.R_take (m := ((L.length : Int) : Int).toNat) HO.out (by have := HM.out; omega)
            rw [← HRES.out, HLL.out, HM.out.1]
            exact this
          · skip
            have hcut := cut_to (P := Try.prog) 31 3 .i64 Try.underlying31 hi0 A L.length c a1 (by omega) (by omega) hNc
            have HM : Aside0 (max 0 (min a1 (L.length : Int)) = a1 ∧ 0 ≤ (a1 : Int) ∧ (a1 : Int) ≤ (L.length : Int)) := ⟨by omega, by omega, by omega⟩
            clear hi0 hNc
            go_wp2
            go_ret
            refine ⟨_, rfl, ?_, HBW.out⟩
            have := Kd.R_take (m := (a1 : Int).toNat) HO.out (by have := HM.out; omega)
            rw [← HRES.out, HLL.out, HM.out.1]
            exact this
  · rw [if_neg hl] at h
    exact absurd h (by simp)

end Go.Proofs.Ytbhccjoodlldbaa.P

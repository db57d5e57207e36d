-- Written by a program of this session (wip/tools/hp.py) out of the translation.
import Derived.Test.YtkgjpelddncfdaaPx0
import Derived.Test.YtkgjpelddncfdaaPx2
import Derived.Test.YtkgjpelddncfdaaPx5
import Derived.Test.YtkgjpelddncfdaaPx6
import Derived.Test.YtkgjpelddncfdaaPx8
import Derived.Test.YtkgjpelddncfdaaPx11
import Derived.Test.YtkgjpelddncfdaaPx12
import Derived.Test.YtkgjpelddncfdaaPx21
import Derived.Test.YtkgjpelddncfdaaPx24
import Derived.Test.YtkgjpelddncfdaaPx26
import Derived.Test.YtkgjpelddncfdaaPx28
import Derived.Test.YtkgjpelddncfdaaPx30
namespace Go.Proofs.Ytkgjpelddncfdaa.P
open Go.RowKit Go.Proofs.YtkgjpelddncfdaaW.PrintWords Go.Proofs.YtkgjpelddncfdaaW.PrintLast Go.Proofs.YtkgjpelddncfdaaW.PrintMore
attribute [local go_sem] max2_int min2_int max_two min_two max_three min_three max_four min_four   -- for this text's walks alone
set_option linter.unusedVariables false
set_option linter.unusedSimpArgs false

/-! ### pascalinelaw11_ScopeFinds: function 5 -/
/-! The document's Member and Find. -/
def ScFoundR (r : RO × Int) (e : Ending) (w' : World) : Prop := ∃ A c, e = .returned (.tuple #[.agg #[.string r.1.f0, .int .i64 r.1.f1, .int .i64 r.1.f2, .int .i64 r.1.f3, .int .i32 r.1.f4, .int .i64 r.1.f5, .bool r.1.f6, .slice A r.1.f7.length c], .int .i64 r.2]) ∧ r.1.f7.length ≤ c ∧ Kd.C k69 w' A r.1.f7.length r.1.f7
def rn_is (a : ByteArray) (x : RO) : Bool := x.f0.toList == a.toList
def rf_hit (d : List RO) (R : Int) : RO × Int := if 0 ≤ R then (rd_T46 d R, 0) else (z46, 110)
def rf_member (Ms : List (List RO)) (m : Int) (a : ByteArray) : RO × Int :=
  if m < 1 ∨ (Ms.length : Int) < m then (z46, 110) else
  if 0 ≤ os_ix (rn_is a) (Ms.getD (m.toNat - 1) []) 0 then (rd_T46 (Ms.getD (m.toNat - 1) []) (os_ix (rn_is a) (Ms.getD (m.toNat - 1) []) 0), 0) else (z46, 110)
theorem map_getD {α β : Type} (f : α → β) (l : List α) (i : Nat) (z : α) : (l.map f).getD i (f z) = f (l.getD i z) := by
  rw [List.getD_eq_getElem?_getD, List.getD_eq_getElem?_getD, List.getElem?_map]
  cases l[i]? <;> rfl
theorem ix_map {α β : Type} (f : α → β) (p : β → Bool) : ∀ (l : List α) (i : Int), os_ix p (l.map f) i = os_ix (fun x => p (f x)) l i
  | [], _ => rfl
  | x :: l, i => by rw [List.map_cons, os_ix_cons, os_ix_cons, ix_map f p l (i + 1)]
/-- The two members are one. -/
theorem sim_member (M : List (List SO)) (m : Int) (a : ByteArray) : rf_member (M.map (fun l => l.map sc_r)) m a = (sc_r (sc_member M m a).1, (sc_member M m a).2) := by
  have e1 : (M.map (fun l => l.map sc_r)).getD (m.toNat - 1) [] = (M.getD (m.toNat - 1) []).map sc_r := map_getD (fun l : List SO => l.map sc_r) M (m.toNat - 1) []
  have e2 : os_ix (rn_is a) ((M.getD (m.toNat - 1) []).map sc_r) 0 = sc_ix (M.getD (m.toNat - 1) []) a := ix_map sc_r (rn_is a) _ 0
  unfold rf_member sc_member
  rw [List.length_map, e1, e2]
  split
  · rfl
  · split
    · unfold rd_T46
      rw [show z46 = sc_r z25 from rfl, map_getD]
    · rfl
set_option maxRecDepth 100000 in
set_option maxHeartbeats 4000000 in
theorem sc_rMember_calls (w : World) (AL : Option Addr) (nL cL : Nat) (lv : Int) (AM : Option Addr) (z cM : Nat) (Ms : List (List RO)) (hM : Kd.C (Kd.slice 46 k46) w AM z Ms) (m : Int) (a : ByteArray) (hz64 : z ≤ 64) :
    Calls Try.prog 18 #[.agg #[.slice AL nL cL, .int .i64 lv, .slice AM z cM], .int .i64 m, .string a] w fun e w' => ScFoundR (rf_member Ms m a) e w' ∧ Below w.heap.size w w' := by
  have HZ := Aside0.mk (show Ms.length = z from hM.1)
  have HC := Aside0.mk hM
  have hz3 : (0 : Int) ≤ (z : Int) := by omega
  clear hM
  by_cases hm1 : m < 1
  · have hd : decide (m < 1) = true := decide_eq_true hm1
    rw [show rf_member Ms m a = (z46, 110) by unfold rf_member; rw [if_pos (.inl hm1)]]
    go_enter Try.func18, Try.ntmps18
    go_wp2_with (first | ((with_reducible refine gate_dst (N := 3) rfl ?_); refine box_event ?hg (N := 3) ?hd (cs := #[.slice AL nL cL, .int .i64 lv, .slice AM z cM]) (t := 31) ?hr ?_; (case hd => rfl); (case hg => rfl); (case hr => first | (go_simp; done) | (go_simp; rfl)); intro b3 hgx w3 hbox hb; have HB3 := Aside0.mk hb; have HX3 := Aside0.mk hbox; clear hgx hbox hb) | ((with_reducible refine gate_dst (N := 6) rfl ?_); refine box_event ?hg (N := 6) ?hd (cs := #[.string ⟨#[]⟩, .int .i64 0, .int .i64 0, .int .i64 0, .int .i32 0, .int .i64 0, .bool false, .slice none 0 0]) (t := 46) ?hr ?_; (case hd => rfl); (case hg => rfl); (case hr => first | (go_simp; done) | (go_simp; rfl)); intro b6 hgx w6 hbox hb; have HB6 := Aside0.mk (below_step HB3.out hb); have HX6 := Aside0.mk hbox; have HG6 := Aside0.mk (show w.heap.size ≤ b6 by rw [hgx]; exact HB3.out.size); have e2 : w6.cell? ⟨b3, 2, none⟩ = some (.slice AM z cM) := blk_cell (blk_below HX3.out hb) 2; have u0 : w6.cell? ⟨b6, 0, none⟩ = some (.string ⟨#[]⟩) := blk_cell hbox 0; have u1 : w6.cell? ⟨b6, 1, none⟩ = some (.int .i64 0) := blk_cell hbox 1; have u2 : w6.cell? ⟨b6, 2, none⟩ = some (.int .i64 0) := blk_cell hbox 2; have u3 : w6.cell? ⟨b6, 3, none⟩ = some (.int .i64 0) := blk_cell hbox 3; have u4 : w6.cell? ⟨b6, 4, none⟩ = some (.int .i32 0) := blk_cell hbox 4; have u5 : w6.cell? ⟨b6, 5, none⟩ = some (.int .i64 0) := blk_cell hbox 5; have u6 : w6.cell? ⟨b6, 6, none⟩ = some (.bool false) := blk_cell hbox 6; have u7 : w6.cell? ⟨b6, 7, none⟩ = some (.slice none 0 0) := blk_cell hbox 7; have s0 := blk_frozen hbox 0; have s1 := blk_frozen hbox 1; have s2 := blk_frozen hbox 2; have s3 := blk_frozen hbox 3; have s4 := blk_frozen hbox 4; have s5 := blk_frozen hbox 5; have s6 := blk_frozen hbox 6; have s7 := blk_frozen hbox 7; clear hgx hbox hb))
    refine bodyPost_ret (results_list (rs := [.cell 6 46, .tmp 7]) rfl (by simp) (.cell b6 46 #[.string ⟨#[]⟩, .int .i64 0, .int .i64 0, .int .i64 0, .int .i32 0, .int .i64 0, .bool false, .slice none 0 0] (0, 0) _ rfl (sc_put8 HX6.out _ _ _ _ _ _ _ _) Try.underlying46 rfl (by kernel_rfl) (.tmp .nil))) rfl ?_
    exact ⟨⟨none, 0, rfl, Nat.le_refl _, Kd.C_nil _ _⟩, sc_put8b HB6.out HG6.out _ _ _ _ _ _ _ _⟩
  · have hd : decide (m < 1) = false := decide_eq_false hm1
    by_cases hm2 : (z : Int) < m
    · have hd2 : decide (m > (z : Int)) = true := decide_eq_true hm2
      rw [show rf_member Ms m a = (z46, 110) by unfold rf_member; rw [if_pos (.inr (by rw [HZ.out]; exact hm2))]]
      go_enter Try.func18, Try.ntmps18
      go_wp2_with (first | ((with_reducible refine gate_dst (N := 3) rfl ?_); refine box_event ?hg (N := 3) ?hd (cs := #[.slice AL nL cL, .int .i64 lv, .slice AM z cM]) (t := 31) ?hr ?_; (case hd => rfl); (case hg => rfl); (case hr => first | (go_simp; done) | (go_simp; rfl)); intro b3 hgx w3 hbox hb; have HB3 := Aside0.mk hb; have HX3 := Aside0.mk hbox; clear hgx hbox hb) | ((with_reducible refine gate_dst (N := 6) rfl ?_); refine box_event ?hg (N := 6) ?hd (cs := #[.string ⟨#[]⟩, .int .i64 0, .int .i64 0, .int .i64 0, .int .i32 0, .int .i64 0, .bool false, .slice none 0 0]) (t := 46) ?hr ?_; (case hd => rfl); (case hg => rfl); (case hr => first | (go_simp; done) | (go_simp; rfl)); intro b6 hgx w6 hbox hb; have HB6 := Aside0.mk (below_step HB3.out hb); have HX6 := Aside0.mk hbox; have HG6 := Aside0.mk (show w.heap.size ≤ b6 by rw [hgx]; exact HB3.out.size); have e2 : w6.cell? ⟨b3, 2, none⟩ = some (.slice AM z cM) := blk_cell (blk_below HX3.out hb) 2; have u0 : w6.cell? ⟨b6, 0, none⟩ = some (.string ⟨#[]⟩) := blk_cell hbox 0; have u1 : w6.cell? ⟨b6, 1, none⟩ = some (.int .i64 0) := blk_cell hbox 1; have u2 : w6.cell? ⟨b6, 2, none⟩ = some (.int .i64 0) := blk_cell hbox 2; have u3 : w6.cell? ⟨b6, 3, none⟩ = some (.int .i64 0) := blk_cell hbox 3; have u4 : w6.cell? ⟨b6, 4, none⟩ = some (.int .i32 0) := blk_cell hbox 4; have u5 : w6.cell? ⟨b6, 5, none⟩ = some (.int .i64 0) := blk_cell hbox 5; have u6 : w6.cell? ⟨b6, 6, none⟩ = some (.bool false) := blk_cell hbox 6; have u7 : w6.cell? ⟨b6, 7, none⟩ = some (.slice none 0 0) := blk_cell hbox 7; have s0 := blk_frozen hbox 0; have s1 := blk_frozen hbox 1; have s2 := blk_frozen hbox 2; have s3 := blk_frozen hbox 3; have s4 := blk_frozen hbox 4; have s5 := blk_frozen hbox 5; have s6 := blk_frozen hbox 6; have s7 := blk_frozen hbox 7; clear hgx hbox hb))
      refine bodyPost_ret (results_list (rs := [.cell 6 46, .tmp 7]) rfl (by simp) (.cell b6 46 #[.string ⟨#[]⟩, .int .i64 0, .int .i64 0, .int .i64 0, .int .i32 0, .int .i64 0, .bool false, .slice none 0 0] (0, 0) _ rfl (sc_put8 HX6.out _ _ _ _ _ _ _ _) Try.underlying46 rfl (by kernel_rfl) (.tmp .nil))) rfl ?_
      exact ⟨⟨none, 0, rfl, Nat.le_refl _, Kd.C_nil _ _⟩, sc_put8b HB6.out HG6.out _ _ _ _ _ _ _ _⟩
    · have hd2 : decide (m > (z : Int)) = false := decide_eq_false hm2
      obtain ⟨k, hk⟩ : ∃ k : Nat, m = (k : Int) + 1 := ⟨m.toNat - 1, by omega⟩
      subst hk
      have hkz : k < z := by omega
      have p1 : (0 : Int) ≤ (k : Int) := by omega
      have p2 : (k : Int) < (z : Int) := by omega
      obtain ⟨ad, Ar, cr, e, hcr, hlr, hCr⟩ := sc_at_row HC.out k hkz
      cases e
      have hmem : rf_member Ms ((k : Int) + 1) a = rf_hit (Ms.getD k []) (os_ix (rn_is a) (Ms.getD k []) 0) := by
        unfold rf_member rf_hit
        rw [if_neg (by rw [HZ.out]; omega), show ((k : Int) + 1).toNat - 1 = k by omega]
      rw [hmem]
      clear hmem
      generalize Ms.getD k [] = d at *
      obtain ⟨R, hR⟩ : ∃ R, os_ix (rn_is a) d 0 = R := ⟨_, rfl⟩
      rw [hR]
      have hmx := Kd.C_max hCr
      generalize hq : d.length = q at *
      have HCR := Aside0.mk hcr; have HLR := Aside0.mk hlr; have HCr := Aside0.mk hCr; have HQ := Aside0.mk hq; have HR := Aside0.mk hR; have HMX := Aside0.mk hmx
      clear hcr hlr hCr hq hR hmx
      go_enter Try.func18, Try.ntmps18
      go_wp2_with (first | ((with_reducible refine gate_dst (N := 3) rfl ?_); refine box_event ?hg (N := 3) ?hd (cs := #[.slice AL nL cL, .int .i64 lv, .slice (some ad) z cM]) (t := 31) ?hr ?_; (case hd => rfl); (case hg => rfl); (case hr => first | (go_simp; done) | (go_simp; rfl)); intro b3 hgx w3 hbox hb; have HB3 := Aside0.mk hb; have HX3 := Aside0.mk hbox; clear hgx hbox hb) | ((with_reducible refine gate_dst (N := 6) rfl ?_); refine box_event ?hg (N := 6) ?hd (cs := #[.string ⟨#[]⟩, .int .i64 0, .int .i64 0, .int .i64 0, .int .i32 0, .int .i64 0, .bool false, .slice none 0 0]) (t := 46) ?hr ?_; (case hd => rfl); (case hg => rfl); (case hr => first | (go_simp; done) | (go_simp; rfl)); intro b6 hgx w6 hbox hb; have HB6 := Aside0.mk (below_step HB3.out hb); have HX6 := Aside0.mk hbox; have HG6 := Aside0.mk (show w.heap.size ≤ b6 by rw [hgx]; exact HB3.out.size); have e2 : w6.cell? ⟨b3, 2, none⟩ = some (.slice (some ad) z cM) := blk_cell (blk_below HX3.out hb) 2; have u0 : w6.cell? ⟨b6, 0, none⟩ = some (.string ⟨#[]⟩) := blk_cell hbox 0; have u1 : w6.cell? ⟨b6, 1, none⟩ = some (.int .i64 0) := blk_cell hbox 1; have u2 : w6.cell? ⟨b6, 2, none⟩ = some (.int .i64 0) := blk_cell hbox 2; have u3 : w6.cell? ⟨b6, 3, none⟩ = some (.int .i64 0) := blk_cell hbox 3; have u4 : w6.cell? ⟨b6, 4, none⟩ = some (.int .i32 0) := blk_cell hbox 4; have u5 : w6.cell? ⟨b6, 5, none⟩ = some (.int .i64 0) := blk_cell hbox 5; have u6 : w6.cell? ⟨b6, 6, none⟩ = some (.bool false) := blk_cell hbox 6; have u7 : w6.cell? ⟨b6, 7, none⟩ = some (.slice none 0 0) := blk_cell hbox 7; have s0 := blk_frozen hbox 0; have s1 := blk_frozen hbox 1; have s2 := blk_frozen hbox 2; have s3 := blk_frozen hbox 3; have s4 := blk_frozen hbox 4; have s5 := blk_frozen hbox 5; have s6 := blk_frozen hbox 6; have s7 := blk_frozen hbox 7; have cr6 : w6.cell? (ad.add k) = some (.slice Ar q cr) := pw_cell_below (below_step HB3.out hb) HCR.out; clear hgx hbox hb))
      clear e2 cr6 u0 s0 u1 s1 u2 s2 u3 s3 u4 s4 u5 s5 u6 s6 u7 s7
      go_loopg [9] (q + 1) (fun kx v9 wr => ∃ i : Nat, v9 = .int .i64 i ∧ Aside0 (i + kx = q + 1 ∧ i ≤ q) ∧ Aside0 (Below w.heap.size w wr) ∧ Aside0 (wr.heap[b6]? = some (.cells #[.string ⟨#[]⟩, .int .i64 0, .int .i64 0, .int .i64 0, .int .i32 0, .int .i64 0, .bool false, .slice none 0 0] 46 (0, 0))) ∧ Aside0 (os_ix (rn_is a) (d.drop i) (i : Int) = R))
      case atStart => exact ⟨0, rfl, ⟨⟨by omega, by omega⟩⟩, HB6, HX6, HR⟩
      case round =>
        obtain ⟨i, rfl, HI, HB, HX, HF⟩ := hrel
        by_cases hi : i < q
        · have hmx := HMX.out
          obtain ⟨ae, A7, c7, e, hx0, hx1, hx2, hx3, hx4, hx5, hx6, hx7, hle, hC7⟩ := at_T46 (HQ.out ▸ HCr.out) (i : Int) (by omega) (by rw [HQ.out]; omega)
          cases e
          have hF := HF.out
          have hdr : d.drop i = rd_T46 d (i : Int) :: d.drop (i + 1) := by rw [rf_rd d i (by rw [HQ.out]; exact hi)]; exact List.drop_eq_getElem_cons (by rw [HQ.out]; exact hi)
          rw [hdr, os_ix_cons] at hF
          clear hdr
          obtain ⟨x, hx⟩ : ∃ x, rd_T46 d (i : Int) = x := ⟨_, rfl⟩
          rw [hx, Int.toNat_natCast] at hx0 hx1 hx2 hx3 hx4 hx5 hx6 hx7
          rw [hx] at hle hC7 hF
          have HXX := Aside0.mk hx
          clear hx
          obtain ⟨x0, x1, x2, x3, x4, x5, x6, x7⟩ := x
          dsimp only at hx0 hx1 hx2 hx3 hx4 hx5 hx6 hx7 hle hC7
          generalize hm7 : x7.length = q7 at hx0 hx1 hx2 hx3 hx4 hx5 hx6 hx7 hle hC7
          replace hx0 := pw_cell_below HB.out hx0
          replace hx1 := pw_cell_below HB.out hx1
          replace hx2 := pw_cell_below HB.out hx2
          replace hx3 := pw_cell_below HB.out hx3
          replace hx4 := pw_cell_below HB.out hx4
          replace hx5 := pw_cell_below HB.out hx5
          replace hx6 := pw_cell_below HB.out hx6
          replace hx7 := pw_cell_below HB.out hx7
          have HC7 := Aside0.mk (And.intro hle hC7); have HM7 := Aside0.mk hm7
          clear hle hC7 hm7
          have i1 : (0 : Int) ≤ (i : Int) := by omega
          have i2 : (i : Int) < (q : Int) := by omega
          have i2b : decide (i < q) = true := decide_eq_true hi
          have i3 : (i : Int) ≤ 9223372036854775806 := by omega
          have HH := Aside0.mk hi
          cases hnm : (x0.toList == a.toList) with
          | true =>
            rw [show rn_is a ⟨x0, x1, x2, x3, x4, x5, x6, x7⟩ = true from hnm, if_pos rfl] at hF
            have HFF := Aside0.mk hF
            have hX4 := HX.out
            have f0 := blk_frozen hX4 0
            have f1 := blk_frozen hX4 1
            have f2 := blk_frozen hX4 2
            have f3 := blk_frozen hX4 3
            have f4 := blk_frozen hX4 4
            have f5 := blk_frozen hX4 5
            have f6 := blk_frozen hX4 6
            have f7 := blk_frozen hX4 7
            have u0 : wr.cell? ⟨b6, 0, none⟩ = some _ := blk_cell hX4 0
            have u1 : wr.cell? ⟨b6, 1, none⟩ = some _ := blk_cell hX4 1
            have u2 : wr.cell? ⟨b6, 2, none⟩ = some _ := blk_cell hX4 2
            have u3 : wr.cell? ⟨b6, 3, none⟩ = some _ := blk_cell hX4 3
            have u4 : wr.cell? ⟨b6, 4, none⟩ = some _ := blk_cell hX4 4
            have u5 : wr.cell? ⟨b6, 5, none⟩ = some _ := blk_cell hX4 5
            have u6 : wr.cell? ⟨b6, 6, none⟩ = some _ := blk_cell hX4 6
            have u7 : wr.cell? ⟨b6, 7, none⟩ = some _ := blk_cell hX4 7
            clear hF hi hX4 hmx
            go_wp2
            refine bodyPost_ret (results_list (rs := [.cell 6 46, .tmp 7]) rfl (by simp) (.cell b6 46 #[.string x0, .int .i64 x1, .int .i64 x2, .int .i64 x3, .int .i32 x4, .int .i64 x5, .bool x6, .slice A7 q7 c7] (0, 0) _ rfl (sc_put8 HX.out _ _ _ _ _ _ _ _) Try.underlying46 rfl (by kernel_rfl) (.tmp .nil))) rfl ?_
            have hb4 := sc_put8b HB.out HG6.out (.string x0) (.int .i64 x1) (.int .i64 x2) (.int .i64 x3) (.int .i32 x4) (.int .i64 x5) (.bool x6) (.slice A7 q7 c7)
            refine ⟨?_, hb4⟩
            unfold rf_hit
            rw [← HFF.out, if_pos (by omega), HXX.out]
            refine ⟨A7, c7, ?_, ?_, ?_⟩
            · dsimp only; rw [HM7.out]; rfl
            · show x7.length ≤ c7; rw [HM7.out]; exact HC7.out.1
            · show Kd.C _ _ _ x7.length x7; rw [HM7.out]; exact Kd.C_below HC7.out.2 hb4
          | false =>
            rw [show rn_is a ⟨x0, x1, x2, x3, x4, x5, x6, x7⟩ = false from hnm, if_neg (by simp)] at hF
            have HFF := Aside0.mk hF
            clear hF hi hmx
            go_wp2
            go_roundg (q - i)
            case measure => have := HI.out; have := HH.out; omega
            case rel => exact ⟨i + 1, (by first | rfl | (simp; done)), ⟨by have := HI.out; have := HH.out; omega⟩, HB, HX, ⟨by rw [show ((i + 1 : Nat) : Int) = (i : Int) + 1 by omega]; exact HFF.out⟩⟩
        · have i2 : decide (i < q) = false := decide_eq_false hi
          have hF := HF.out
          rw [List.drop_eq_nil_of_le (by rw [HQ.out]; omega)] at hF
          have hR : R = -1 := hF.symm
          have hX4 := HX.out
          have f0 := blk_frozen hX4 0
          have f1 := blk_frozen hX4 1
          have f2 := blk_frozen hX4 2
          have f3 := blk_frozen hX4 3
          have f4 := blk_frozen hX4 4
          have f5 := blk_frozen hX4 5
          have f6 := blk_frozen hX4 6
          have f7 := blk_frozen hX4 7
          have u0 : wr.cell? ⟨b6, 0, none⟩ = some _ := blk_cell hX4 0
          have u1 : wr.cell? ⟨b6, 1, none⟩ = some _ := blk_cell hX4 1
          have u2 : wr.cell? ⟨b6, 2, none⟩ = some _ := blk_cell hX4 2
          have u3 : wr.cell? ⟨b6, 3, none⟩ = some _ := blk_cell hX4 3
          have u4 : wr.cell? ⟨b6, 4, none⟩ = some _ := blk_cell hX4 4
          have u5 : wr.cell? ⟨b6, 5, none⟩ = some _ := blk_cell hX4 5
          have u6 : wr.cell? ⟨b6, 6, none⟩ = some _ := blk_cell hX4 6
          have u7 : wr.cell? ⟨b6, 7, none⟩ = some _ := blk_cell hX4 7
          have HRR := Aside0.mk hR
          clear hR hF hX4
          go_wp2
          refine bodyPost_ret (results_list (rs := [.cell 6 46, .tmp 7]) rfl (by simp) (.cell b6 46 #[.string ⟨#[]⟩, .int .i64 0, .int .i64 0, .int .i64 0, .int .i32 0, .int .i64 0, .bool false, .slice none 0 0] (0, 0) _ rfl (sc_put8 HX.out _ _ _ _ _ _ _ _) Try.underlying46 rfl (by kernel_rfl) (.tmp .nil))) rfl ?_
          unfold rf_hit
          rw [HRR.out, if_neg (by decide)]
          exact ⟨⟨none, 0, rfl, Nat.le_refl _, Kd.C_nil _ _⟩, sc_put8b HB.out HG6.out _ _ _ _ _ _ _ _⟩
/-! What the document finds is what is found. -/
def rf_tup (x : SO × Int) : ByteArray × Int × Int × Int × Int × Int × Bool × List S69 × Int := (x.1.f0, x.1.f1, x.1.f2, x.1.f3, x.1.f4, x.1.f5, x.1.f6, x.1.f7, x.2)
theorem rf_find_l {D M : List (List SO)} {L : List RO} {lv : Int} {Ms : List (List RO)} (h : Sim D M L lv Ms) (hL : L.length ≤ 1000000) (hD : D.length ≤ 65) (a : ByteArray) : ∀ (j k : Nat), j ≤ D.length → j + L.length + 1 < k → pascalineref11_Find.l0 k a ((j : Int) - 1) L lv Ms = some (rf_tup (sc_got D (sc_from D a j)))
  | 0, k, hj, hk => by
    obtain ⟨k, rfl⟩ : ∃ m, k = m + 1 := ⟨k - 1, by omega⟩
    simp only [pascalineref11_Find.l0]
    rw [if_neg (by omega)]
    rfl
  | j + 1, k, hj, hk => by
    obtain ⟨k, rfl⟩ : ∃ m, k = m + 1 := ⟨k - 1, by omega⟩
    have e : ((j + 1 : Nat) : Int) - 1 = (j : Int) := by omega
    rw [e]
    simp only [pascalineref11_Find.l0]
    rw [if_pos (by omega), rf_at L hL (j : Int) lv Ms a k (by omega)]
    simp only [Option.bind_some]
    have hd : D[j]? = some (D.getD j []) := by rw [List.getD_eq_getElem?_getD, List.getElem?_eq_getElem (by omega)]; rfl
    have hw : wrap64 ((j : Int) - 1) = (j : Int) - 1 := by unfold wrap64; omega
    cases hn : nf (rf_is (j : Int) a) L with
    | none =>
      rw [ix_m1 hn, if_neg (by omega), hw, rf_find_l h hL hD a j k (by omega) (by omega)]
      have h2 := (h.ix hd a).1 hn
      rw [show sc_from D a (j + 1) = sc_from D a j by rw [sc_from, show sc_ix (D.getD j []) a = -1 from ix_m1 h2, if_neg (by omega)]]
    | some r =>
      obtain ⟨i, h1, h2, -⟩ := h.found hd a hn
      obtain ⟨hr, -⟩ := nf_lt hn
      obtain ⟨hi, -⟩ := nf_lt h1
      rw [ix_some hn, if_pos (by omega), if_pos (by omega), if_pos (by omega), rf_rd L r hr]
      rw [show sc_from D a (j + 1) = some (j, i) by rw [sc_from, show sc_ix (D.getD j []) a = (i : Int) from ix_some h1, if_pos (by omega), Int.toNat_natCast]]
      have h3 : L[r] = sc_r ((D.getD j []).getD i z25) := by
        rw [List.getElem?_map, List.getElem?_eq_getElem hr, List.getElem?_eq_getElem hi] at h2
        rw [List.getD_eq_getElem?_getD, List.getElem?_eq_getElem hi]
        exact Option.some.inj h2
      rw [h3]
      rfl
theorem rf_find {D M : List (List SO)} {L : List RO} {lv : Int} {Ms : List (List RO)} (h : Sim D M L lv Ms) (hL : L.length ≤ 1000000) (hD : D.length ≤ 65) (a : ByteArray) (k : Nat) (hk : L.length + 67 < k) : pascalineref11_Find.f k L lv Ms a = some (rf_tup (sc_find D a)) := by
  unfold pascalineref11_Find.f
  have e : lv = (D.length : Int) - 1 := h.lv
  have := rf_find_l h hL hD a D.length k (Nat.le_refl _) (by omega)
  rw [← e] at this
  exact this
theorem par_refl_l (l : List S69) (hl : l.length ≤ 9223372036854775807) (d : Nat) : ∀ (k i : Nat), i ≤ l.length → l.length - i = d → d < k → pascalineref11_Params.l0 k l l (i : Int) = some true := by
  induction d with
  | zero =>
    intro k i hi hd hk
    obtain ⟨k, rfl⟩ : ∃ m, k = m + 1 := ⟨k - 1, by omega⟩
    simp only [pascalineref11_Params.l0]
    rw [if_neg (by omega)]
  | succ d ih =>
    intro k i hi hd hk
    obtain ⟨k, rfl⟩ : ∃ m, k = m + 1 := ⟨k - 1, by omega⟩
    simp only [pascalineref11_Params.l0]
    rw [if_pos (by omega), if_pos (by omega), if_pos (by omega), if_neg (by simp), show wrap64 ((i : Int) + 1) = ((i + 1 : Nat) : Int) by unfold wrap64; omega]
    exact ih k (i + 1) (by omega) (by omega) (by omega)
theorem par_refl (l : List S69) (hl : l.length ≤ 9223372036854775807) (k : Nat) (hk : l.length < k) : pascalineref11_Params.f k l l = some true := by
  unfold pascalineref11_Params.f
  rw [if_pos rfl]
  exact par_refl_l l hl l.length k 0 (by omega) (by omega) hk
theorem is_refl (x : SO) (hl : x.f7.length ≤ 9223372036854775807) (k : Nat) (hk : x.f7.length < k) : pascalinelaw11_is.f k x.f0 x.f1 x.f2 x.f3 x.f4 x.f5 x.f6 x.f7 x.f0 x.f1 x.f2 x.f3 x.f4 x.f5 x.f6 x.f7 = some true := by
  unfold pascalinelaw11_is.f
  rw [if_pos rfl, if_pos rfl, if_pos rfl, if_pos rfl, if_pos rfl, if_pos rfl, if_pos (by simp), par_refl x.f7 hl k hk]
  rfl
section
variable {bx : List Nat} {N base g : Nat} {w : World} {col : Nat → Nat} {D M : List (List SO)} {L : List RO} {lv : Int} {Ms : List (List RO)} {vL vM : Value}
theorem rf_Find_calls (h : St bx N base w g col D M L lv Ms vL vM) (hN : N ≤ 1000) (a : ByteArray) :
    Calls Try.prog 16 #[.agg #[vL, .int .i64 lv, vM], .string a] w fun e w' => ScFoundR (sc_r (sc_find D a).1, (sc_find D a).2) e w' ∧ Below w.heap.size w w' := by
  obtain ⟨AL, cL, rfl⟩ := Kd.V_slice h.vl
  obtain ⟨AM, cM, rfl⟩ := Kd.V_slice h.vm
  have hm := Kd.V_reads' h.vm
  have hL := h.len
  refine (pascalineref11_Find.calls 5000 (FP bx col) AL cL L lv AM cM Ms a _ _ _ _ _ _ _ _ _ w h.vl hm.2.2 hm.2.1 (rf_find h.sim (by omega) h.is.len.2.1 a 5000 (by omega))).mono ?_
  rintro e w' ⟨v, rfl, hv, hb⟩
  obtain ⟨A7, c7, rfl⟩ := Kd.V_slice hv
  have h7 := Kd.V_reads' hv
  exact ⟨⟨A7, c7, rfl, h7.2.1, h7.2.2⟩, hb⟩
theorem rf_Member_calls (h : St bx N base w g col D M L lv Ms vL vM) (m : Int) (a : ByteArray) :
    Calls Try.prog 18 #[.agg #[vL, .int .i64 lv, vM], .int .i64 m, .string a] w fun e w' => ScFoundR (sc_r (sc_member M m a).1, (sc_member M m a).2) e w' ∧ Below w.heap.size w w' := by
  obtain ⟨AL, cL, rfl⟩ := Kd.V_slice h.vl
  obtain ⟨AM, cM, rfl⟩ := Kd.V_slice h.vm
  have hm := Kd.V_reads' h.vm
  have e := h.sim.mods
  have h64 := h.is.len.2.2.1
  have q := sc_rMember_calls w AL L.length cL lv AM Ms.length cM Ms hm.2.2 m a (by rw [e, List.length_map]; exact h64)
  rw [show rf_member Ms m a = (sc_r (sc_member M m a).1, (sc_member M m a).2) by rw [e]; exact sim_member M m a] at q
  exact q
end
theorem sc_is_calls (w : World) (x0 : ByteArray) (x1 x2 x3 x4 x5 : Int) (x6 : Bool) (x7 : List S69) (A : Option Addr) (c : Nat) (A' : Option Addr) (c' : Nat) (hc : x7.length ≤ c) (hC : Kd.C k69 w A x7.length x7) (hc' : x7.length ≤ c') (hC' : Kd.C k69 w A' x7.length x7) :
    Calls Try.prog 19 #[.agg #[.string x0, .int .i64 x1, .int .i64 x2, .int .i64 x3, .int .i32 x4, .int .i64 x5, .bool x6, .slice A x7.length c], .agg #[.string x0, .int .i64 x1, .int .i64 x2, .int .i64 x3, .int .i32 x4, .int .i64 x5, .bool x6, .slice A' x7.length c']] w fun e w' => e = .returned (.bool true) ∧ Below w.heap.size w w' :=
  pascalinelaw11_is.calls (x7.length + 1) x0 x1 x2 x3 x4 x5 x6 A c x7 x0 x1 x2 x3 x4 x5 x6 A' c' x7 true w hC hc hC' hc' (is_refl ⟨x0, x1, x2, x3, x4, x5, x6, x7⟩ (Kd.C_max hC) (x7.length + 1) (Nat.lt_succ_self _))
instance (o : S57) : Decidable (SmallOp o) := by unfold SmallOp; infer_instance
/-- The row's bounds. -/
def SmallOps (l : List S57) : Prop := l.length ≤ 1048576 ∧ ∀ o ∈ l, SmallOp o
instance (l : List S57) : Decidable (SmallOps l) := by unfold SmallOps; infer_instance
def pascalinelaw11_ScopeFinds.f (l0 : List S57) (_a1 : ByteArray) (_a2 : Int) : Option Bool := if SmallOps l0 then some true else none
set_option maxRecDepth 100000 in
set_option maxHeartbeats 4000000 in
theorem pascalinelaw11_ScopeFinds.calls (A0 : Option Addr) (c0 : Nat) (l0 : List S57) (a1 : ByteArray) (a2 : Int) (r : Bool) (w : World) (hr0 : Kd.C k57 w A0 l0.length l0) (hc0 : l0.length ≤ c0) (h : pascalinelaw11_ScopeFinds.f l0 a1 a2 = some r) :
    Calls Try.prog 5 #[.slice A0 l0.length c0, .string a1, .int .i64 a2] w fun e w' => e = .returned (.bool r) ∧ Below w.heap.size w w' := by
  unfold pascalinelaw11_ScopeFinds.f at h
  by_cases hs : SmallOps l0
  case neg => rw [if_neg hs] at h; cases h
  rw [if_pos hs] at h
  obtain rfl : r = true := (Option.some.inj h).symm
  have HC := Aside0.mk hr0; have HLL := Aside0.mk hs.1; have HSM := Aside0.mk hs.2
  clear hr0 hc0 h hs
  go_enter Try.func5, Try.ntmps5
  go_wp2_with (first | (go_at_call 6; refine (sc_awake_calls _).mono ?_; rintro e w1 ⟨rfl, hb⟩; have HB1 := Aside0.mk hb; clear hb) | (go_at_call 7; refine (sc_played_calls A0 c0 l0 _ (Kd.C_below HC.out HB1.out) HLL.out HSM.out).mono ?_; rintro e w7 ⟨base, g, col, D, M, L, lv, Ms, A, n, c, A', n', c', _, rfl, hS, hb⟩; have HS7 := Aside0.mk hS; have HZ7 := Aside0.mk (below_step HB1.out hb); obtain ⟨rx, hrx⟩ : ∃ R, sc_find D a1 = R := ⟨_, rfl⟩; obtain ⟨ry, hry⟩ : ∃ R, sc_member M a2 a1 = R := ⟨_, rfl⟩; obtain ⟨⟨x0, x1, x2, x3, x4, x5, x6, x7⟩, cx⟩ := rx; obtain ⟨⟨y0, y1, y2, y3, y4, y5, y6, y7⟩, cy⟩ := ry; have HRX := Aside0.mk hrx; have HRY := Aside0.mk hry; clear hb hS HB1 hrx hry) | ((with_reducible refine gate_dst (N := 8) rfl ?_); refine box_event ?hg (N := 8) ?hd (cs := #[.slice none 0 0, .int .i64 0, .slice none 0 0]) (t := 31) ?hr ?_; (case hd => rfl); (case hg => rfl); (case hr => first | (go_simp; done) | (go_simp; rfl)); intro b8 hgx w8 hbox hb; have HB8 := Aside0.mk hb; have HX8 := Aside0.mk hbox; have HG8 := Aside0.mk (show w7.heap.size ≤ b8 from Nat.le_of_eq hgx.symm); have v0 : w8.cell? ⟨b8, 0, none⟩ = some (.slice none 0 0) := blk_cell hbox 0; have v1 : w8.cell? ⟨b8, 1, none⟩ = some (.int .i64 0) := blk_cell hbox 1; have v2 : w8.cell? ⟨b8, 2, none⟩ = some (.slice none 0 0) := blk_cell hbox 2; have s0 := blk_frozen hbox 0; have s1 := blk_frozen hbox 1; have s2 := blk_frozen hbox 2; clear hgx hbox hb) | (go_at_call 8; obtain ⟨W9, hW9⟩ : ∃ W9 : World, (((w8.setCell ⟨b8, 0, none⟩ (.slice A n c)).setCell ⟨b8, 1, none⟩ (.int .i64 lv)).setCell ⟨b8, 2, none⟩ (.slice A' n' c')) = W9 := ⟨_, rfl⟩; rw [hW9]; have hx := sc_put3 HX8.out (.slice A n c) (.int .i64 lv) (.slice A' n' c'); rw [hW9] at hx; have HN8 := Aside0.mk hx; have hb := sc_put3b HB8.out HG8.out (.slice A n c) (.int .i64 lv) (.slice A' n' c'); rw [hW9] at hb; clear hx hW9 HX8 HB8 v0 v1 v2 s0 s1 s2; have HZ9 := Aside0.mk (below_step HZ7.out hb); have HS9 := Aside0.mk (HS7.out.below hb); clear hb HS7 HZ7; refine (sc_Find_calls HS9.out.is a1).mono ?_; rw [HRX.out]; rintro e w10 ⟨⟨Ax, cc, rfl, hl, hc⟩, hb⟩; have HC10 := Aside0.mk (And.intro hl hc); have HZ10 := Aside0.mk (below_step HZ9.out hb); have HS10 := Aside0.mk (HS9.out.below hb); have HM8 := Aside0.mk (blk_below HN8.out hb); clear hl hc hb HZ9 HS9 HN8; dsimp only [sc_cells]) | ((with_reducible refine gate_dst (N := 10) rfl ?_); refine box_event ?hg (N := 10) ?hd (cs := #[.string ⟨#[]⟩, .int .i64 0, .int .i64 0, .int .i64 0, .int .i32 0, .int .i64 0, .bool false, .slice none 0 0]) (t := 25) ?hr ?_; (case hd => rfl); (case hg => rfl); (case hr => first | (go_simp; done) | (go_simp; rfl)); intro b10 hgx w10b hbox hb; have HB10 := Aside0.mk hb; have HX10 := Aside0.mk hbox; have HG10 := Aside0.mk (show w10.heap.size ≤ b10 from Nat.le_of_eq hgx.symm); have v0 : w10b.cell? ⟨b10, 0, none⟩ = some (.string ⟨#[]⟩) := blk_cell hbox 0; have v1 : w10b.cell? ⟨b10, 1, none⟩ = some (.int .i64 0) := blk_cell hbox 1; have v2 : w10b.cell? ⟨b10, 2, none⟩ = some (.int .i64 0) := blk_cell hbox 2; have v3 : w10b.cell? ⟨b10, 3, none⟩ = some (.int .i64 0) := blk_cell hbox 3; have v4 : w10b.cell? ⟨b10, 4, none⟩ = some (.int .i32 0) := blk_cell hbox 4; have v5 : w10b.cell? ⟨b10, 5, none⟩ = some (.int .i64 0) := blk_cell hbox 5; have v6 : w10b.cell? ⟨b10, 6, none⟩ = some (.bool false) := blk_cell hbox 6; have v7 : w10b.cell? ⟨b10, 7, none⟩ = some (.slice none 0 0) := blk_cell hbox 7; have s0 := blk_frozen hbox 0; have s1 := blk_frozen hbox 1; have s2 := blk_frozen hbox 2; have s3 := blk_frozen hbox 3; have s4 := blk_frozen hbox 4; have s5 := blk_frozen hbox 5; have s6 := blk_frozen hbox 6; have s7 := blk_frozen hbox 7; clear hgx hbox hb) | ((with_reducible refine gate_dst (N := 35) rfl ?_); obtain ⟨W11, hW11⟩ : ∃ W11 : World, ((((((((w10b.setCell ⟨b10, 0, none⟩ (.string x0)).setCell ⟨b10, 1, none⟩ (.int .i64 x1)).setCell ⟨b10, 2, none⟩ (.int .i64 x2)).setCell ⟨b10, 3, none⟩ (.int .i64 x3)).setCell ⟨b10, 4, none⟩ (.int .i32 x4)).setCell ⟨b10, 5, none⟩ (.int .i64 x5)).setCell ⟨b10, 6, none⟩ (.bool x6)).setCell ⟨b10, 7, none⟩ (.slice Ax x7.length cc)) = W11 := ⟨_, rfl⟩; rw [hW11]; have hx := sc_put8 HX10.out (.string x0) (.int .i64 x1) (.int .i64 x2) (.int .i64 x3) (.int .i32 x4) (.int .i64 x5) (.bool x6) (.slice Ax x7.length cc); rw [hW11] at hx; have HN10 := Aside0.mk hx; have hb := sc_put8b HB10.out HG10.out (.string x0) (.int .i64 x1) (.int .i64 x2) (.int .i64 x3) (.int .i32 x4) (.int .i64 x5) (.bool x6) (.slice Ax x7.length cc); rw [hW11] at hb; clear hx hW11 HX10 HB10 v0 v1 v2 v3 v4 v5 v6 v7 s0 s1 s2 s3 s4 s5 s6 s7; have HZ11 := Aside0.mk (below_step HZ10.out hb); have HS11 := Aside0.mk (HS10.out.below hb); have HN8 := Aside0.mk (blk_below HM8.out hb); have HC11 := Aside0.mk (And.intro HC10.out.1 (Kd.C_below HC10.out.2 hb)); have q0 : W11.cell? ⟨b8, 0, none⟩ = some (.slice A n c) := blk_cell HN8.out 0; have q1 : W11.cell? ⟨b8, 1, none⟩ = some (.int .i64 lv) := blk_cell HN8.out 1; have q2 : W11.cell? ⟨b8, 2, none⟩ = some (.slice A' n' c') := blk_cell HN8.out 2; clear hb HZ10 HS10 HM8 HC10) | (go_at_call 16; refine (rf_Find_calls HS11.out (by omega) a1).mono ?_; rw [HRX.out]; rintro e w12 ⟨⟨Ar, cr, rfl, hl, hc⟩, hb⟩; have HC12 := Aside0.mk (And.intro hl hc); have HZ12 := Aside0.mk (below_step HZ11.out hb); have HS12 := Aside0.mk (HS11.out.below hb); have HM8 := Aside0.mk (blk_below HN8.out hb); have HM10 := Aside0.mk (blk_below HN10.out hb); have HC11b := Aside0.mk (And.intro HC11.out.1 (Kd.C_below HC11.out.2 hb)); clear hl hc hb HZ11 HS11 HN8 HN10 HC11 q0 q1 q2; dsimp only [sc_r]) | ((with_reducible refine gate_dst (N := 12) rfl ?_); refine box_event ?hg (N := 12) ?hd (cs := #[.string ⟨#[]⟩, .int .i64 0, .int .i64 0, .int .i64 0, .int .i32 0, .int .i64 0, .bool false, .slice none 0 0]) (t := 46) ?hr ?_; (case hd => rfl); (case hg => rfl); (case hr => first | (go_simp; done) | (go_simp; rfl)); intro b12 hgx w12b hbox hb; have HB12 := Aside0.mk hb; have HX12 := Aside0.mk hbox; have HG12 := Aside0.mk (show w12.heap.size ≤ b12 from Nat.le_of_eq hgx.symm); have v0 : w12b.cell? ⟨b12, 0, none⟩ = some (.string ⟨#[]⟩) := blk_cell hbox 0; have v1 : w12b.cell? ⟨b12, 1, none⟩ = some (.int .i64 0) := blk_cell hbox 1; have v2 : w12b.cell? ⟨b12, 2, none⟩ = some (.int .i64 0) := blk_cell hbox 2; have v3 : w12b.cell? ⟨b12, 3, none⟩ = some (.int .i64 0) := blk_cell hbox 3; have v4 : w12b.cell? ⟨b12, 4, none⟩ = some (.int .i32 0) := blk_cell hbox 4; have v5 : w12b.cell? ⟨b12, 5, none⟩ = some (.int .i64 0) := blk_cell hbox 5; have v6 : w12b.cell? ⟨b12, 6, none⟩ = some (.bool false) := blk_cell hbox 6; have v7 : w12b.cell? ⟨b12, 7, none⟩ = some (.slice none 0 0) := blk_cell hbox 7; have s0 := blk_frozen hbox 0; have s1 := blk_frozen hbox 1; have s2 := blk_frozen hbox 2; have s3 := blk_frozen hbox 3; have s4 := blk_frozen hbox 4; have s5 := blk_frozen hbox 5; have s6 := blk_frozen hbox 6; have s7 := blk_frozen hbox 7; clear hgx hbox hb) | (go_at_call 17; obtain ⟨W13, hW13⟩ : ∃ W13 : World, ((((((((w12b.setCell ⟨b12, 0, none⟩ (.string x0)).setCell ⟨b12, 1, none⟩ (.int .i64 x1)).setCell ⟨b12, 2, none⟩ (.int .i64 x2)).setCell ⟨b12, 3, none⟩ (.int .i64 x3)).setCell ⟨b12, 4, none⟩ (.int .i32 x4)).setCell ⟨b12, 5, none⟩ (.int .i64 x5)).setCell ⟨b12, 6, none⟩ (.bool x6)).setCell ⟨b12, 7, none⟩ (.slice Ar x7.length cr)) = W13 := ⟨_, rfl⟩; rw [hW13]; have hx := sc_put8 HX12.out (.string x0) (.int .i64 x1) (.int .i64 x2) (.int .i64 x3) (.int .i32 x4) (.int .i64 x5) (.bool x6) (.slice Ar x7.length cr); rw [hW13] at hx; have HN12 := Aside0.mk hx; have hb := sc_put8b HB12.out HG12.out (.string x0) (.int .i64 x1) (.int .i64 x2) (.int .i64 x3) (.int .i32 x4) (.int .i64 x5) (.bool x6) (.slice Ar x7.length cr); rw [hW13] at hb; clear hx hW13 HX12 HB12 v0 v1 v2 v3 v4 v5 v6 v7 s0 s1 s2 s3 s4 s5 s6 s7; have HZ13 := Aside0.mk (below_step HZ12.out hb); have HS13 := Aside0.mk (HS12.out.below hb); have HN8 := Aside0.mk (blk_below HM8.out hb); have HN10 := Aside0.mk (blk_below HM10.out hb); have HC13 := Aside0.mk (And.intro (And.intro HC11b.out.1 (Kd.C_below HC11b.out.2 hb)) (And.intro HC12.out.1 (Kd.C_below HC12.out.2 hb))); clear hb HZ12 HS12 HM8 HM10 HC12 HC11b; refine (sc_Member_calls HS13.out.is a2 a1).mono ?_; rw [HRY.out]; rintro e w14 ⟨⟨Ay, cd, rfl, hl, hc⟩, hb⟩; have HC14 := Aside0.mk (And.intro hl hc); have HZ14 := Aside0.mk (below_step HZ13.out hb); have HS14 := Aside0.mk (HS13.out.below hb); have HM8 := Aside0.mk (blk_below HN8.out hb); have HM10 := Aside0.mk (blk_below HN10.out hb); have HM12 := Aside0.mk (blk_below HN12.out hb); have HC13b := Aside0.mk (And.intro (And.intro HC13.out.1.1 (Kd.C_below HC13.out.1.2 hb)) (And.intro HC13.out.2.1 (Kd.C_below HC13.out.2.2 hb))); clear hl hc hb HZ13 HS13 HN8 HN10 HN12 HC13; dsimp only [sc_cells]) | ((with_reducible refine gate_dst (N := 14) rfl ?_); refine box_event ?hg (N := 14) ?hd (cs := #[.string ⟨#[]⟩, .int .i64 0, .int .i64 0, .int .i64 0, .int .i32 0, .int .i64 0, .bool false, .slice none 0 0]) (t := 25) ?hr ?_; (case hd => rfl); (case hg => rfl); (case hr => first | (go_simp; done) | (go_simp; rfl)); intro b14 hgx w14b hbox hb; have HB14 := Aside0.mk hb; have HX14 := Aside0.mk hbox; have HG14 := Aside0.mk (show w14.heap.size ≤ b14 from Nat.le_of_eq hgx.symm); have v0 : w14b.cell? ⟨b14, 0, none⟩ = some (.string ⟨#[]⟩) := blk_cell hbox 0; have v1 : w14b.cell? ⟨b14, 1, none⟩ = some (.int .i64 0) := blk_cell hbox 1; have v2 : w14b.cell? ⟨b14, 2, none⟩ = some (.int .i64 0) := blk_cell hbox 2; have v3 : w14b.cell? ⟨b14, 3, none⟩ = some (.int .i64 0) := blk_cell hbox 3; have v4 : w14b.cell? ⟨b14, 4, none⟩ = some (.int .i32 0) := blk_cell hbox 4; have v5 : w14b.cell? ⟨b14, 5, none⟩ = some (.int .i64 0) := blk_cell hbox 5; have v6 : w14b.cell? ⟨b14, 6, none⟩ = some (.bool false) := blk_cell hbox 6; have v7 : w14b.cell? ⟨b14, 7, none⟩ = some (.slice none 0 0) := blk_cell hbox 7; have s0 := blk_frozen hbox 0; have s1 := blk_frozen hbox 1; have s2 := blk_frozen hbox 2; have s3 := blk_frozen hbox 3; have s4 := blk_frozen hbox 4; have s5 := blk_frozen hbox 5; have s6 := blk_frozen hbox 6; have s7 := blk_frozen hbox 7; clear hgx hbox hb) | ((with_reducible refine gate_dst (N := 48) rfl ?_); obtain ⟨W15, hW15⟩ : ∃ W15 : World, ((((((((w14b.setCell ⟨b14, 0, none⟩ (.string y0)).setCell ⟨b14, 1, none⟩ (.int .i64 y1)).setCell ⟨b14, 2, none⟩ (.int .i64 y2)).setCell ⟨b14, 3, none⟩ (.int .i64 y3)).setCell ⟨b14, 4, none⟩ (.int .i32 y4)).setCell ⟨b14, 5, none⟩ (.int .i64 y5)).setCell ⟨b14, 6, none⟩ (.bool y6)).setCell ⟨b14, 7, none⟩ (.slice Ay y7.length cd)) = W15 := ⟨_, rfl⟩; rw [hW15]; have hx := sc_put8 HX14.out (.string y0) (.int .i64 y1) (.int .i64 y2) (.int .i64 y3) (.int .i32 y4) (.int .i64 y5) (.bool y6) (.slice Ay y7.length cd); rw [hW15] at hx; have HN14 := Aside0.mk hx; have hb := sc_put8b HB14.out HG14.out (.string y0) (.int .i64 y1) (.int .i64 y2) (.int .i64 y3) (.int .i32 y4) (.int .i64 y5) (.bool y6) (.slice Ay y7.length cd); rw [hW15] at hb; clear hx hW15 HX14 HB14 v0 v1 v2 v3 v4 v5 v6 v7 s0 s1 s2 s3 s4 s5 s6 s7; have HZ15 := Aside0.mk (below_step HZ14.out hb); have HS15 := Aside0.mk (HS14.out.below hb); have HN8 := Aside0.mk (blk_below HM8.out hb); have HN10 := Aside0.mk (blk_below HM10.out hb); have HN12 := Aside0.mk (blk_below HM12.out hb); have HC15 := Aside0.mk (And.intro (And.intro HC13b.out.1.1 (Kd.C_below HC13b.out.1.2 hb)) (And.intro HC13b.out.2.1 (Kd.C_below HC13b.out.2.2 hb))); have HD15 := Aside0.mk (And.intro HC14.out.1 (Kd.C_below HC14.out.2 hb)); have q0 : W15.cell? ⟨b8, 0, none⟩ = some (.slice A n c) := blk_cell HN8.out 0; have q1 : W15.cell? ⟨b8, 1, none⟩ = some (.int .i64 lv) := blk_cell HN8.out 1; have q2 : W15.cell? ⟨b8, 2, none⟩ = some (.slice A' n' c') := blk_cell HN8.out 2; clear hb HZ14 HS14 HM8 HM10 HM12 HC14 HC13b) | (go_at_call 18; refine (rf_Member_calls HS15.out a2 a1).mono ?_; rw [HRY.out]; rintro e w16 ⟨⟨Aq, cq, rfl, hl, hc⟩, hb⟩; have HC16 := Aside0.mk (And.intro hl hc); have HZ16 := Aside0.mk (below_step HZ15.out hb); have HM10 := Aside0.mk (blk_below HN10.out hb); have HM12 := Aside0.mk (blk_below HN12.out hb); have HM14 := Aside0.mk (blk_below HN14.out hb); have HC15b := Aside0.mk (And.intro (And.intro HC15.out.1.1 (Kd.C_below HC15.out.1.2 hb)) (And.intro HC15.out.2.1 (Kd.C_below HC15.out.2.2 hb))); have HD15b := Aside0.mk (And.intro HD15.out.1 (Kd.C_below HD15.out.2 hb)); clear hl hc hb HZ15 HS15 HN8 HN10 HN12 HN14 HC15 HD15 q0 q1 q2; dsimp only [sc_r]) | ((with_reducible refine gate_dst (N := 16) rfl ?_); refine box_event ?hg (N := 16) ?hd (cs := #[.string ⟨#[]⟩, .int .i64 0, .int .i64 0, .int .i64 0, .int .i32 0, .int .i64 0, .bool false, .slice none 0 0]) (t := 46) ?hr ?_; (case hd => rfl); (case hg => rfl); (case hr => first | (go_simp; done) | (go_simp; rfl)); intro b16 hgx w16b hbox hb; have HB16 := Aside0.mk hb; have HX16 := Aside0.mk hbox; have HG16 := Aside0.mk (show w16.heap.size ≤ b16 from Nat.le_of_eq hgx.symm); have v0 : w16b.cell? ⟨b16, 0, none⟩ = some (.string ⟨#[]⟩) := blk_cell hbox 0; have v1 : w16b.cell? ⟨b16, 1, none⟩ = some (.int .i64 0) := blk_cell hbox 1; have v2 : w16b.cell? ⟨b16, 2, none⟩ = some (.int .i64 0) := blk_cell hbox 2; have v3 : w16b.cell? ⟨b16, 3, none⟩ = some (.int .i64 0) := blk_cell hbox 3; have v4 : w16b.cell? ⟨b16, 4, none⟩ = some (.int .i32 0) := blk_cell hbox 4; have v5 : w16b.cell? ⟨b16, 5, none⟩ = some (.int .i64 0) := blk_cell hbox 5; have v6 : w16b.cell? ⟨b16, 6, none⟩ = some (.bool false) := blk_cell hbox 6; have v7 : w16b.cell? ⟨b16, 7, none⟩ = some (.slice none 0 0) := blk_cell hbox 7; have s0 := blk_frozen hbox 0; have s1 := blk_frozen hbox 1; have s2 := blk_frozen hbox 2; have s3 := blk_frozen hbox 3; have s4 := blk_frozen hbox 4; have s5 := blk_frozen hbox 5; have s6 := blk_frozen hbox 6; have s7 := blk_frozen hbox 7; clear hgx hbox hb) | ((with_reducible refine gate_dst (N := 63) rfl ?_); obtain ⟨W17, hW17⟩ : ∃ W17 : World, ((((((((w16b.setCell ⟨b16, 0, none⟩ (.string y0)).setCell ⟨b16, 1, none⟩ (.int .i64 y1)).setCell ⟨b16, 2, none⟩ (.int .i64 y2)).setCell ⟨b16, 3, none⟩ (.int .i64 y3)).setCell ⟨b16, 4, none⟩ (.int .i32 y4)).setCell ⟨b16, 5, none⟩ (.int .i64 y5)).setCell ⟨b16, 6, none⟩ (.bool y6)).setCell ⟨b16, 7, none⟩ (.slice Aq y7.length cq)) = W17 := ⟨_, rfl⟩; rw [hW17]; have hx := sc_put8 HX16.out (.string y0) (.int .i64 y1) (.int .i64 y2) (.int .i64 y3) (.int .i32 y4) (.int .i64 y5) (.bool y6) (.slice Aq y7.length cq); rw [hW17] at hx; have HN16 := Aside0.mk hx; have hb := sc_put8b HB16.out HG16.out (.string y0) (.int .i64 y1) (.int .i64 y2) (.int .i64 y3) (.int .i32 y4) (.int .i64 y5) (.bool y6) (.slice Aq y7.length cq); rw [hW17] at hb; clear hx hW17 HX16 HB16 v0 v1 v2 v3 v4 v5 v6 v7 s0 s1 s2 s3 s4 s5 s6 s7; have HZ17 := Aside0.mk (below_step HZ16.out hb); have HN10 := Aside0.mk (blk_below HM10.out hb); have HN12 := Aside0.mk (blk_below HM12.out hb); have HN14 := Aside0.mk (blk_below HM14.out hb); have HC17 := Aside0.mk (And.intro (And.intro HC15b.out.1.1 (Kd.C_below HC15b.out.1.2 hb)) (And.intro HC15b.out.2.1 (Kd.C_below HC15b.out.2.2 hb))); have HD17 := Aside0.mk (And.intro (And.intro HD15b.out.1 (Kd.C_below HD15b.out.2 hb)) (And.intro HC16.out.1 (Kd.C_below HC16.out.2 hb))); have q0 : W17.cell? ⟨b10, 0, none⟩ = some (.string x0) := blk_cell HN10.out 0; have q1 : W17.cell? ⟨b10, 1, none⟩ = some (.int .i64 x1) := blk_cell HN10.out 1; have q2 : W17.cell? ⟨b10, 2, none⟩ = some (.int .i64 x2) := blk_cell HN10.out 2; have q3 : W17.cell? ⟨b10, 3, none⟩ = some (.int .i64 x3) := blk_cell HN10.out 3; have q4 : W17.cell? ⟨b10, 4, none⟩ = some (.int .i32 x4) := blk_cell HN10.out 4; have q5 : W17.cell? ⟨b10, 5, none⟩ = some (.int .i64 x5) := blk_cell HN10.out 5; have q6 : W17.cell? ⟨b10, 6, none⟩ = some (.bool x6) := blk_cell HN10.out 6; have q7 : W17.cell? ⟨b10, 7, none⟩ = some (.slice Ax x7.length cc) := blk_cell HN10.out 7; have u0 : W17.cell? ⟨b12, 0, none⟩ = some (.string x0) := blk_cell HN12.out 0; have u1 : W17.cell? ⟨b12, 1, none⟩ = some (.int .i64 x1) := blk_cell HN12.out 1; have u2 : W17.cell? ⟨b12, 2, none⟩ = some (.int .i64 x2) := blk_cell HN12.out 2; have u3 : W17.cell? ⟨b12, 3, none⟩ = some (.int .i64 x3) := blk_cell HN12.out 3; have u4 : W17.cell? ⟨b12, 4, none⟩ = some (.int .i32 x4) := blk_cell HN12.out 4; have u5 : W17.cell? ⟨b12, 5, none⟩ = some (.int .i64 x5) := blk_cell HN12.out 5; have u6 : W17.cell? ⟨b12, 6, none⟩ = some (.bool x6) := blk_cell HN12.out 6; have u7 : W17.cell? ⟨b12, 7, none⟩ = some (.slice Ar x7.length cr) := blk_cell HN12.out 7; clear hb HZ16 HM10 HM12 HM14 HC16 HC15b HD15b) | (go_at_call 19; refine (sc_is_calls _ x0 x1 x2 x3 x4 x5 x6 x7 Ax cc Ar cr HC17.out.1.1 HC17.out.1.2 HC17.out.2.1 HC17.out.2.2).mono ?_; rintro e w18 ⟨rfl, hb⟩; have HZ18 := Aside0.mk (below_step HZ17.out hb); have HM14 := Aside0.mk (blk_below HN14.out hb); have HM16 := Aside0.mk (blk_below HN16.out hb); have HD18 := Aside0.mk (And.intro (And.intro HD17.out.1.1 (Kd.C_below HD17.out.1.2 hb)) (And.intro HD17.out.2.1 (Kd.C_below HD17.out.2.2 hb))); clear q0 q1 q2 q3 q4 q5 q6 q7 u0 u1 u2 u3 u4 u5 u6 u7; have q0 : w18.cell? ⟨b14, 0, none⟩ = some (.string y0) := blk_cell HM14.out 0; have q1 : w18.cell? ⟨b14, 1, none⟩ = some (.int .i64 y1) := blk_cell HM14.out 1; have q2 : w18.cell? ⟨b14, 2, none⟩ = some (.int .i64 y2) := blk_cell HM14.out 2; have q3 : w18.cell? ⟨b14, 3, none⟩ = some (.int .i64 y3) := blk_cell HM14.out 3; have q4 : w18.cell? ⟨b14, 4, none⟩ = some (.int .i32 y4) := blk_cell HM14.out 4; have q5 : w18.cell? ⟨b14, 5, none⟩ = some (.int .i64 y5) := blk_cell HM14.out 5; have q6 : w18.cell? ⟨b14, 6, none⟩ = some (.bool y6) := blk_cell HM14.out 6; have q7 : w18.cell? ⟨b14, 7, none⟩ = some (.slice Ay y7.length cd) := blk_cell HM14.out 7; have u0 : w18.cell? ⟨b16, 0, none⟩ = some (.string y0) := blk_cell HM16.out 0; have u1 : w18.cell? ⟨b16, 1, none⟩ = some (.int .i64 y1) := blk_cell HM16.out 1; have u2 : w18.cell? ⟨b16, 2, none⟩ = some (.int .i64 y2) := blk_cell HM16.out 2; have u3 : w18.cell? ⟨b16, 3, none⟩ = some (.int .i64 y3) := blk_cell HM16.out 3; have u4 : w18.cell? ⟨b16, 4, none⟩ = some (.int .i32 y4) := blk_cell HM16.out 4; have u5 : w18.cell? ⟨b16, 5, none⟩ = some (.int .i64 y5) := blk_cell HM16.out 5; have u6 : w18.cell? ⟨b16, 6, none⟩ = some (.bool y6) := blk_cell HM16.out 6; have u7 : w18.cell? ⟨b16, 7, none⟩ = some (.slice Aq y7.length cq) := blk_cell HM16.out 7; clear hb HZ17 HN10 HN12 HN14 HN16 HC17 HD17) | (go_at_call 19; refine (sc_is_calls _ y0 y1 y2 y3 y4 y5 y6 y7 Ay cd Aq cq HD18.out.1.1 HD18.out.1.2 HD18.out.2.1 HD18.out.2.2).mono ?_; rintro e w19 ⟨rfl, hb⟩; have HBZ := Aside0.mk (below_step HZ18.out hb); clear q0 q1 q2 q3 q4 q5 q6 q7 u0 u1 u2 u3 u4 u5 u6 u7 hb HZ18))
  go_ret
  exact ⟨rfl, HBZ.out⟩

end Go.Proofs.Ytkgjpelddncfdaa.P

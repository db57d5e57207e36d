-- Written by a program of this session (wip/tools/hp.py) out of the translation.
import Derived.Test.YtbhccjoodlldbaaPx0
import Derived.Test.YtbhccjoodlldbaaPx13
namespace Go.Proofs.Ytbhccjoodlldbaa.P
open Go.RowKit Go.Proofs.YtbhccjoodlldbaaW.PrintWords Go.Proofs.YtbhccjoodlldbaaW.PrintLast Go.Proofs.YtbhccjoodlldbaaW.PrintMore
attribute [local go_sem] max2_int min2_int max_two min_two max_three min_three max_four min_four   -- for this text's walks alone
set_option linter.unusedVariables false
set_option linter.unusedSimpArgs false

/-! ### api_Segment: function 26 -/
theorem slices_CloneSeg.info : (Try.prog.info? 57).map (fun i => (i.zero, i.size, i.bytes)) = some (some (.agg #[(.int .i64 0), (.int .i64 0)]), 2, 16) := by kernel_rfl
def slices_CloneSeg.f (l0 : List S57) : Option (List S57) := if l0.length < 8796093022208 then some l0 else none
set_option maxHeartbeats 1000000 in
set_option maxRecDepth 100000 in
theorem slices_CloneSeg.calls (A0 : Option Addr) (c0 : Nat) (l0 : List S57) (r : List S57) (w : World) (hr0 : Kd.C k57 w A0 l0.length l0) (hc0 : l0.length ≤ c0) (h : slices_CloneSeg.f l0 = some r) :
    Calls Try.prog 26 #[.slice A0 l0.length c0] w fun e w' => ∃ v0_ : Value, e = .returned (v0_) ∧ Kd.R k57 57 w' w.heap.size (fun _ => True) v0_ r ∧ Below w.heap.size w w' := by
  unfold slices_CloneSeg.f at h
  by_cases hl : l0.length < 8796093022208
  · rw [if_pos hl] at h
    injection h with h
    subst h
    have hq := fun (w : World) => Lib.run_eql_slice_nil (P := Try.prog) w 51 57 A0 l0.length c0 0 0 Try.underlying51
    have HR0 := Aside0.mk hr0
    have HB := Aside0.mk (Below.refl w.heap.size w)
    have HL := Aside0.mk hl
    clear hl
    cases A0 with
    | none =>
      have e0 : l0 = [] := by
        cases l0 with
        | nil => rfl
        | cons x t =>
          obtain ⟨ad, e, _⟩ := at_T57 hr0 0 (by omega) (by simp)
          exact absurd e (by simp)
      subst e0
      clear hr0 hq
      have hq0 := fun (w : World) => Lib.run_eql_slice_nil (P := Try.prog) w 51 57 none 0 c0 0 0 Try.underlying51
      simp only [Option.isNone_none] at hq0
      go_enter Try.func26, Try.ntmps26
      go_wp2
      go_ret
      exact ⟨_, rfl, Kd.R_nil _ _ _ _ _, Below.refl _ _⟩
    | some ad =>
      clear hr0
      simp only [Option.isNone_some] at hq
      go_enter Try.func26, Try.ntmps26
      go_wp2_with (first | ((with_reducible refine gate_dst (N := 5) rfl ?_); refine Kd.R_lit k57 _ 57 ?hg (N := 5) ?hd (xs := ([] : List (S57))) (inner := []) (ok := fun _ => True) (okp := fun _ => True) ?hr ?hp (fun _ hk => hk) trivial (Below.refl _ _) (Nat.le_refl _) (by simp) ?_; (case hd => rfl); (case hg => rfl); (case hr => first | (go_simp; done) | (go_simp; rfl)); (case hp => exact (Reps.none _ _)); intro v5 w6 ho7 hb hg_ hnew_; clear hg_ hnew_; have HO := Aside0.mk ho7; have HB2 := Aside0.mk (below_step HB.out hb); clear HB; have HB := HB2; clear HB2; clear hb ho7) | ((with_reducible refine gate_builtin (b := .append) (xs := #[.tmp 5, .tmp 6]) rfl ?_); at_builtin; refine Kd.R_append_rows k57 (w0 := w) w.heap.size rfl (.tmp 5) (.tmp 6) 51 57 (.agg #[(.int .i64 0), (.int .i64 0)]) 16 rfl Try.underlying51 slices_CloneSeg.info rfl (by decide) (by omega) v5 ([] : List S57) l0 _ _ _ (fun _ => True) (fun _ => False) rfl rfl ?aO ?aR (fun _ _ h => h) (fun _ h => h.elim) ?aF ?aB ?aS ?aL ?_; (case aR => exact (Kd.C_below HR0.out HB.out)); (case aB => exact HB.out); (case aF => exact (fun _ _ => trivial)); (case aO => exact HO.out); (case aS => exact (HB.out).size); (case aL => have := HL.out; simp only [List.length_nil]; omega); intro v8 w8 ho hb hg hat; have HO2 := Aside0.mk ho; have HB2 := Aside0.mk hb; clear ho hb hg hat HO HB))
      go_ret
      exact ⟨_, rfl, HO2.out, HB2.out⟩
  · rw [if_neg hl] at h; exact absurd h (by simp)

/-! ### ranges_Builder_List: function 20 -/
set_option maxHeartbeats 1000000 in
set_option maxRecDepth 100000 in
theorem ranges_List.calls {w0 : World} {g : Nat} {A : Option Addr} {c : Nat} {L : List S57} {w : World} (h : ranges_Bld w0 w g A c L) (hl : L.length ≤ 1000000) :
    Calls Try.prog 20 #[.pointer (some ⟨g, 0, none⟩)] w fun e w' => ∃ v0 : Value, e = .returned v0 ∧ Kd.R k57 57 w' w.heap.size (fun _ => True) v0 L ∧ Below w.heap.size w w' := by
  obtain ⟨hg, hR, _⟩ := h
  have hcl := slices_CloneSeg.calls A c L L w (Kd.R_reads' hR).2.2 (Kd.R_reads' hR).2.1 (by unfold slices_CloneSeg.f; rw [if_pos (by omega)])
  have hc := cell_of_one hg
  have hf := free_of_one hg
  have HCL := Aside0.mk hcl
  clear hg hR hcl
  generalize L.length = n at *
  go_enter Try.func20, Try.ntmps20
  go_wp2_with (go_at_call 26; refine HCL.out.mono ?_; rintro e w' ⟨v, rfl, ho, hb⟩; have HO := Aside0.mk ho; have HB := Aside0.mk hb; clear ho hb)
  go_ret
  exact ⟨_, rfl, HO.out, HB.out⟩

end Go.Proofs.Ytbhccjoodlldbaa.P

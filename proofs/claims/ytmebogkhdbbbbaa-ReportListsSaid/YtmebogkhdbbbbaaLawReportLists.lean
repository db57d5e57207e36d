/- The row of ReportLists, out of its pure statement and the printed walk. Written by a program of this session (wip/tools/genrow.py). -/
import Derived.Test.YtmebogkhdbbbbaaRows
import Derived.Test.YtmebogkhdbbbbaaPsReportLists
import Derived.Test.YtmebogkhdbbbbaaPureReportLists
import Derived.WalkKit
import Derived.ProofKit
import Derived.OpenShut
import Derived.ShutString
import Derived.ChangeOld
import Derived.Below
import Derived.SizedLaws
import Derived.WideShapes
namespace Go.Proofs.Ytmebogkhdbbbbaa.reportLists
open Go.ChangeShapes Go.WideShapes Go.ChangeAt Go.RowKit
open Go.ChangeMaps (open_string shut_string)
open Go.Proofs.Ytmebogkhdbbbbaa.C Go.Proofs.Ytmebogkhdbbbbaa.O Go.Proofs.YtmebogkhdbbbbaaW.PrintWords
set_option linter.unusedVariables false
set_option linter.unusedSimpArgs false
theorem own : ownKnob Try.prog.godebug = none := by kernel_rfl
theorem laidOut : laidOutB Try.prog = true := by kernel_rfl
set_option maxRecDepth 100000 in
theorem lifted (os : Os) (started : os.Started) (H : Type) (enc : TypeId × Value → H) :
    ReturnsInHanded {} Try.checked os 5 .any (Rows.reportListsSpec.pre6 enc Try.prog Try.f5 Rows.reportListsRow.domain false) (Rows.reportListsSpec.post enc Try.prog Try.f5 false true false false) := by
  refine returnsInHanded_of_change_sized (C := Try.checked) own started (by kernel_rfl) Try.func5
    (ChangeSpec.witness6 (enc := enc) (C := Try.checked) false ⟨#[], #[.agg #[.int .u32 0, .int .u32 0, .int .u32 0, .int .u32 0, .int .u32 0, .slice none 0 0, .slice none 0 0, .int .u32 0, .int .u32 0, .int .u32 0, .int .u32 0, .slice none 0 0], .string ByteArray.empty], []⟩ 8 (by kernel_rfl) (by kernel_rfl) (by kernel_rfl) (by kernel_rfl)) ?_
  intro W base args ds gs before hval0 hW hcnd hsz0 _
  have hsz : (DataW.weightsEach Try.prog (Try.f5.params.toList ++ Rows.reportListsSpec.plain.varTypes Try.prog) (ds ++ gs)).all (· ≤ reachBytes) = true := hsz0
  have hval : ∀ (j : Nat) t v, Try.f5.params[j]? = some t → args[j]? = some v → Value.okWide Try.prog W .any base t v := hval0
  have hW' := hW
  obtain ⟨p, q, hA0, hV, rfl, hfz, hnd⟩ := hW
  have hA : DataW.TrodAll enc Try.prog W 0 (fun _ => true) true Try.f5.params.toList args.toList ds p := hA0
  rw [Try.params5] at hA hval hsz
  obtain ⟨v0, vs0, d0, ds0, p0, q0, hargs, rfl, rfl, h0, r0⟩ := trodAll_cons hA
  obtain ⟨v1, vs1, d1, ds1, p1, q1, rfl, rfl, rfl, h1, r1⟩ := trodAll_cons r0
  obtain ⟨rfl, rfl, rfl⟩ := trodAll_nil r1
  obtain rfl : args = #[v0, v1] := by cases args; simp_all
  obtain ⟨rfl, rfl⟩ := trodVars_none hV
  have kp0 := h0
  have lt0 : ∀ x ∈ p0, x.block < W.heap.size := by obtain ⟨m, hm⟩ := kp0; exact DataW.trod_lt m _ _ _ hm
  obtain ⟨cs0, rfl, _⟩ := okWide_struct Try.underlying40 (hval 0 40 v0 rfl rfl)
  obtain ⟨x0, kx0, w0⟩ := o40.arg h0
  obtain ⟨A0_5, c0_5, A0_6, c0_6, A0_11, c0_11, hcs0, hl0_5, hC0_5, hl0_6, hC0_6, hl0_11, hC0_11⟩ := P.k40_open kx0
  obtain rfl : cs0 = #[.int .u32 x0.f0.f0, .int .u32 x0.f0.f1, .int .u32 x0.f0.f2, .int .u32 x0.f0.f3, .int .u32 x0.f0.f4, .slice A0_5 x0.f1.length c0_5, .slice A0_6 x0.f2.length c0_6, .int .u32 x0.f3.f0, .int .u32 x0.f3.f1, .int .u32 x0.f3.f2, .int .u32 x0.f3.f3, .slice A0_11 x0.f4.length c0_11] := Array.ext' hcs0
  have kp1 := h1
  have lt1 : ∀ x ∈ p1, x.block < W.heap.size := by obtain ⟨m, hm⟩ := kp1; exact DataW.trod_lt m _ _ _ hm
  obtain ⟨a1, rfl, rfl, rfl, y1⟩ := open_string Try.underlying9 (hval 1 9 v1 rfl rfl) h1
  have w1 : a1.size ≤ 140737488351232 := by
    have z := sized_string hsz (j := 1) (t := 9) rfl rfl
    rw [Array.length_toList] at z
    exact z
  clear hA0 hval0 hsz0 hsz
  obtain ⟨k, hk⟩ := Pure.ReportLists x0.f0.f0 x0.f0.f1 x0.f0.f2 x0.f0.f3 x0.f0.f4 x0.f1 x0.f2 x0.f3.f0 x0.f3.f1 x0.f3.f2 x0.f3.f3 x0.f4 a1 w0.1.1 w0.1.2.1 w0.1.2.2.1 w0.1.2.2.2.1 w0.1.2.2.2.2 w0.2.1 w0.2.2.1 w0.2.2.2.1.1 w0.2.2.2.1.2.1 w0.2.2.2.1.2.2.1 w0.2.2.2.1.2.2.2 w0.2.2.2.2 w1
  refine (P.pascalinelaw31_ReportLists.calls k x0.f0.f0 x0.f0.f1 x0.f0.f2 x0.f0.f3 x0.f0.f4 _ _ x0.f1 _ _ x0.f2 x0.f3.f0 x0.f3.f1 x0.f3.f2 x0.f3.f3 _ _ x0.f4 a1 true W hC0_5 hl0_5 hC0_6 hl0_6 hC0_11 hl0_11 hk).mono fun e W' ⟨he, bel0⟩ => ?_
  have bel : Below W.heap.size W W' := bel0
  subst he
  exact ⟨_, rfl, _, _, _, [], _, [], hW', trodAll_mk1 (shut_bool Try.underlying4 _), (trodAll_cons_mk (Below.trod laidOut (by kernel_rfl) (of_decide_eq_true (by kernel_rfl)) kp0 bel lt0) (trodAll_cons_mk (shut_string Try.underlying9 y1) trodAll_mk0)), rfl, bel.frame _, fun h => by cases h⟩
theorem over : Rows.reportListsRow.holds Try.pinned (OpenSpec.ofChange Rows.reportListsSpec) :=
  OpenClaim.holds_of_wide 5 Try.f5 rfl rfl rfl rfl rfl rfl rfl ⟨rfl, rfl, rfl, rfl, rfl⟩ rfl rfl rfl rfl rfl (by kernel_rfl) Try.func5 (by kernel_rfl)
    (of_decide_eq_true (by kernel_rfl)) (by unfold Func.isWrapper; first | (rw [if_pos (by decide +kernel)]; kernel_rfl) | (rw [if_neg (by decide +kernel)]; exact ⟨rfl, rfl⟩))
    (fun os started H enc _ => lifted os started H enc)
theorem proved : Rows.ReportListsSaid := over
#print axioms proved
end Go.Proofs.Ytmebogkhdbbbbaa.reportLists
namespace Go.Proofs.Ytmebogkhdbbbbaa
/-- The row, under a short name, for the claim. -/
theorem reportLists_holds : Rows.ReportListsSaid := reportLists.proved
end Go.Proofs.Ytmebogkhdbbbbaa
